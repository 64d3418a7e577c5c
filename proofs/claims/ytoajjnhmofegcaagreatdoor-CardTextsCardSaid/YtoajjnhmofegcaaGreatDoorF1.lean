/- The functions of the program as Lean functions, each shown to be what the code computes, part 1. No condition: lemmas for the claim. -/
import Derived.Test.YtoajjnhmofegcaaGreatDoorF0
import Derived.Test.YtoajjnhmofegcaaGreatDoorFSh
set_option linter.unusedVariables false
set_option maxRecDepth 100000
namespace Go.Am
open Go Go.Proofs
abbrev T_M_Below : Type 1 := Int → Int → {R : Type} → (Int → Option R) → Option R
def M_Below_ (g : Nat) (a1 a2 : Int) {R : Type} (k0 : Int → Option R) : Option R :=
 (bif (decide (a2 < 1)) then k0 0 else (bif (a2 == 0) then none else (bif (decide ((Int.tmod a1 a2) < 0)) then k0 (w64 ((Int.tmod a1 a2) + a2)) else k0 (Int.tmod a1 a2))))
noncomputable def M_Below [Fuel] : T_M_Below := @M_Below_ NN
def SS_M_Below (g : T_M_Below) : Spec A := fun args => match args with | [.d (.int .i64 a1), .d (.int .i64 a2)] => fun k => g a1 a2 (fun z0 => k (.d (.int .i64 z0)) [.undef, .undef]) | _ => fun _ => none
noncomputable def code_119 : Code := (Tryz.f119.body).getD .skip
noncomputable def E_M_Below (g : Nat) : Env A := mkE [] [] [] [] [] [] [] [] [] []
theorem sm_M_Below (g : Nat) : Same (SS_M_Below (@M_Below_ g)) (abody (E_M_Below g) Tryz.f119 code_119 0 [] [.asis] g) := by intro args; unfold SS_M_Below; split; exact .inr fun R k => (by kernel_rfl); exact .inl fun R k => rfl
theorem ok_M_Below [Fuel] : Ok 119 (SS_M_Below (@M_Below _)) := okF_of std .nil ⟨rfl, rfl, by kernel_rfl, rfl, rfl, rfl⟩ (sm_M_Below NN) (cuts0 (fun _ => rfl) (by kernel_rfl)) Tryz.func119 (by kernel_rfl) (by kernel_rfl)
abbrev T_Stream_Next : Type 1 := G_Stream → Int → {R : Type} → (Int → G_Stream → Option R) → Option R
structure C_Stream_Next where
 N : Nat
 M_Below : T_M_Below
def Stream_Next_ (g : C_Stream_Next) (a1 : G_Stream) (a2 : Int) {R : Type} (k0 : Int → G_Stream → Option R) : Option R :=
 (bif ((a1.f_L.length : Int) == 0) then (g.M_Below (w64 ((w64 (a1.f_at + 1)) * 7919)) a2 (fun r3 => k0 r3 (⟨a1.f_L, (w64 (a1.f_at + 1))⟩ : G_Stream))) else (bif ((a1.f_L.length : Int) == 0) then none else (bif ((a1.f_L.length : Int) == 0) then none else (get_ a1.f_L (Int.tmod (w64 ((w64 (a1.f_at + 1)) - 1)) (a1.f_L.length : Int)) fun x4 => (g.M_Below x4 1073741824 (fun r5 => (g.M_Below (w64 (r5 + (w64 ((w64 (Int.tdiv (w64 ((w64 (a1.f_at + 1)) - 1)) (a1.f_L.length : Int))) * (w64 (7919 + (Int.tmod (w64 ((w64 (a1.f_at + 1)) - 1)) (a1.f_L.length : Int)))))))) a2 (fun r6 => k0 r6 (⟨a1.f_L, (w64 (a1.f_at + 1))⟩ : G_Stream)))))))))
noncomputable def I_Stream_Next [Fuel] : C_Stream_Next := ⟨NN, @M_Below _⟩
noncomputable def Stream_Next [Fuel] : T_Stream_Next := @Stream_Next_ I_Stream_Next
def SS_Stream_Next (g : T_Stream_Next) : Spec A := fun args => match args with | [.box [.d (.sl 3 a1), .d (.int .i64 a2)], .d (.int .i64 a3)] => fun k => g ⟨a1, a2⟩ a3 (fun z0 z1 => k (.d (.int .i64 z0)) [.box [.d (.sl 3 z1.f_L), .d (.int .i64 z1.f_at)], .undef]) | _ => fun _ => none
noncomputable def code_50 : Code := (Tryz.f50.body).getD .skip
noncomputable def E_Stream_Next (g : C_Stream_Next) : Env A := mkE [(119, SS_M_Below g.M_Below)] [] [] [] [] [] [] [] [] [0]
theorem sm_Stream_Next (g : C_Stream_Next) : Same (SS_Stream_Next (@Stream_Next_ g)) (abody (E_Stream_Next g) Tryz.f50 code_50 1 [0] [.asis] g.N) := by intro args; unfold SS_Stream_Next; split; exact .inr fun R k => (by kernel_rfl); exact .inl fun R k => rfl
theorem ok_Stream_Next [Fuel] : Ok 50 (SS_Stream_Next (@Stream_Next _)) := okF_of std (.cons ok_M_Below .nil) ⟨rfl, rfl, by kernel_rfl, rfl, rfl, rfl⟩ (sm_Stream_Next I_Stream_Next) (cuts0 (fun _ => rfl) (by kernel_rfl)) Tryz.func50 (by kernel_rfl) (by kernel_rfl)
abbrev T_Stream_Range : Type 1 := G_Stream → Int → Int → {R : Type} → (Int → G_Stream → Option R) → Option R
structure C_Stream_Range where
 N : Nat
 Stream_Next : T_Stream_Next
def Stream_Range_ (g : C_Stream_Range) (a1 : G_Stream) (a2 a3 : Int) {R : Type} (k0 : Int → G_Stream → Option R) : Option R :=
 (bif (decide (a3 < a2)) then k0 a2 a1 else (g.Stream_Next a1 (w64 ((w64 (a3 - a2)) + 1)) (fun r4 r5 => k0 (w64 (a2 + r4)) r5)))
noncomputable def I_Stream_Range [Fuel] : C_Stream_Range := ⟨NN, @Stream_Next _⟩
noncomputable def Stream_Range [Fuel] : T_Stream_Range := @Stream_Range_ I_Stream_Range
def SS_Stream_Range (g : T_Stream_Range) : Spec A := fun args => match args with | [.box [.d (.sl 3 a1), .d (.int .i64 a2)], .d (.int .i64 a3), .d (.int .i64 a4)] => fun k => g ⟨a1, a2⟩ a3 a4 (fun z0 z1 => k (.d (.int .i64 z0)) [.box [.d (.sl 3 z1.f_L), .d (.int .i64 z1.f_at)], .undef, .undef]) | _ => fun _ => none
noncomputable def code_8 : Code := (Tryz.f8.body).getD .skip
noncomputable def E_Stream_Range (g : C_Stream_Range) : Env A := mkE [(50, SS_Stream_Next g.Stream_Next)] [] [] [] [] [] [] [] [] [0]
theorem sm_Stream_Range (g : C_Stream_Range) : Same (SS_Stream_Range (@Stream_Range_ g)) (abody (E_Stream_Range g) Tryz.f8 code_8 1 [0] [.asis] g.N) := by intro args; unfold SS_Stream_Range; split; exact .inr fun R k => (by kernel_rfl); exact .inl fun R k => rfl
theorem ok_Stream_Range [Fuel] : Ok 8 (SS_Stream_Range (@Stream_Range _)) := okF_of std (.cons ok_Stream_Next .nil) ⟨rfl, rfl, by kernel_rfl, rfl, rfl, rfl⟩ (sm_Stream_Range I_Stream_Range) (cuts0 (fun _ => rfl) (by kernel_rfl)) Tryz.func8 (by kernel_rfl) (by kernel_rfl)
abbrev T_Stream_Pick : Type 1 := G_Stream → List Int → {R : Type} → (Int → G_Stream → Option R) → Option R
structure C_Stream_Pick where
 N : Nat
 Stream_Next : T_Stream_Next
def Stream_Pick_ (g : C_Stream_Pick) (a1 : G_Stream) (a2 : List Int) {R : Type} (k0 : Int → G_Stream → Option R) : Option R :=
 (g.Stream_Next a1 (a2.length : Int) (fun r3 r4 => (get_ a2 r3 fun x5 => k0 x5 r4)))
noncomputable def I_Stream_Pick [Fuel] : C_Stream_Pick := ⟨NN, @Stream_Next _⟩
noncomputable def Stream_Pick [Fuel] : T_Stream_Pick := @Stream_Pick_ I_Stream_Pick
def SS_Stream_Pick (g : T_Stream_Pick) : Spec A := fun args => match args with | [.box [.d (.sl 3 a1), .d (.int .i64 a2)], .d (.sl 3 a3)] => fun k => g ⟨a1, a2⟩ a3 (fun z0 z1 => k (.d (.int .i64 z0)) [.box [.d (.sl 3 z1.f_L), .d (.int .i64 z1.f_at)], .undef]) | _ => fun _ => none
noncomputable def code_44 : Code := (Tryz.f44.body).getD .skip
noncomputable def E_Stream_Pick (g : C_Stream_Pick) : Env A := mkE [(50, SS_Stream_Next g.Stream_Next)] [] [] [] [] [] [] [] [] [0]
theorem sm_Stream_Pick (g : C_Stream_Pick) : Same (SS_Stream_Pick (@Stream_Pick_ g)) (abody (E_Stream_Pick g) Tryz.f44 code_44 1 [0] [.asis] g.N) := by intro args; unfold SS_Stream_Pick; split; exact .inr fun R k => (by kernel_rfl); exact .inl fun R k => rfl
theorem ok_Stream_Pick [Fuel] : Ok 44 (SS_Stream_Pick (@Stream_Pick _)) := okF_of std (.cons ok_Stream_Next .nil) ⟨rfl, rfl, by kernel_rfl, rfl, rfl, rfl⟩ (sm_Stream_Pick I_Stream_Pick) (cuts0 (fun _ => rfl) (by kernel_rfl)) Tryz.func44 (by kernel_rfl) (by kernel_rfl)
abbrev T_Stream_Flip : Type 1 := G_Stream → Int → {R : Type} → (Bool → G_Stream → Option R) → Option R
structure C_Stream_Flip where
 N : Nat
 Stream_Next : T_Stream_Next
def Stream_Flip_ (g : C_Stream_Flip) (a1 : G_Stream) (a2 : Int) {R : Type} (k0 : Bool → G_Stream → Option R) : Option R :=
 (g.Stream_Next a1 a2 (fun r3 r4 => k0 (r3 == 0) r4))
noncomputable def I_Stream_Flip [Fuel] : C_Stream_Flip := ⟨NN, @Stream_Next _⟩
noncomputable def Stream_Flip [Fuel] : T_Stream_Flip := @Stream_Flip_ I_Stream_Flip
def SS_Stream_Flip (g : T_Stream_Flip) : Spec A := fun args => match args with | [.box [.d (.sl 3 a1), .d (.int .i64 a2)], .d (.int .i64 a3)] => fun k => g ⟨a1, a2⟩ a3 (fun z0 z1 => k (.d (.bool z0)) [.box [.d (.sl 3 z1.f_L), .d (.int .i64 z1.f_at)], .undef]) | _ => fun _ => none
noncomputable def code_71 : Code := (Tryz.f71.body).getD .skip
noncomputable def E_Stream_Flip (g : C_Stream_Flip) : Env A := mkE [(50, SS_Stream_Next g.Stream_Next)] [] [] [] [] [] [] [] [] [0]
theorem sm_Stream_Flip (g : C_Stream_Flip) : Same (SS_Stream_Flip (@Stream_Flip_ g)) (abody (E_Stream_Flip g) Tryz.f71 code_71 1 [0] [.asis] g.N) := by intro args; unfold SS_Stream_Flip; split; exact .inr fun R k => (by kernel_rfl); exact .inl fun R k => rfl
theorem ok_Stream_Flip [Fuel] : Ok 71 (SS_Stream_Flip (@Stream_Flip _)) := okF_of std (.cons ok_Stream_Next .nil) ⟨rfl, rfl, by kernel_rfl, rfl, rfl, rfl⟩ (sm_Stream_Flip I_Stream_Flip) (cuts0 (fun _ => rfl) (by kernel_rfl)) Tryz.func71 (by kernel_rfl) (by kernel_rfl)
abbrev T_Stream_Some : Type 1 := G_Stream → List (List UInt8) → {R : Type} → (List UInt8 → G_Stream → Option R) → Option R
structure C_Stream_Some where
 N : Nat
 Stream_Next : T_Stream_Next
def Stream_Some_ (g : C_Stream_Some) (a1 : G_Stream) (a2 : List (List UInt8)) {R : Type} (k0 : List UInt8 → G_Stream → Option R) : Option R :=
 (g.Stream_Next a1 (a2.length : Int) (fun r3 r4 => (get_ a2 r3 fun x5 => k0 x5 r4)))
noncomputable def I_Stream_Some [Fuel] : C_Stream_Some := ⟨NN, @Stream_Next _⟩
noncomputable def Stream_Some [Fuel] : T_Stream_Some := @Stream_Some_ I_Stream_Some
def SS_Stream_Some (g : T_Stream_Some) : Spec A := fun args => match args with | [.box [.d (.sl 3 a1), .d (.int .i64 a2)], .d (.sl 9 a3)] => fun k => g ⟨a1, a2⟩ a3 (fun z0 z1 => k (.d (.str z0)) [.box [.d (.sl 3 z1.f_L), .d (.int .i64 z1.f_at)], .undef]) | _ => fun _ => none
noncomputable def code_70 : Code := (Tryz.f70.body).getD .skip
noncomputable def E_Stream_Some (g : C_Stream_Some) : Env A := mkE [(50, SS_Stream_Next g.Stream_Next)] [] [] [] [] [] [] [] [] [0]
theorem sm_Stream_Some (g : C_Stream_Some) : Same (SS_Stream_Some (@Stream_Some_ g)) (abody (E_Stream_Some g) Tryz.f70 code_70 1 [0] [.asis] g.N) := by intro args; unfold SS_Stream_Some; split; exact .inr fun R k => (by kernel_rfl); exact .inl fun R k => rfl
theorem ok_Stream_Some [Fuel] : Ok 70 (SS_Stream_Some (@Stream_Some _)) := okF_of std (.cons ok_Stream_Next .nil) ⟨rfl, rfl, by kernel_rfl, rfl, rfl, rfl⟩ (sm_Stream_Some I_Stream_Some) (cuts0 (fun _ => rfl) (by kernel_rfl)) Tryz.func70 (by kernel_rfl) (by kernel_rfl)
abbrev T_Stream_ACall : Type 1 := G_Stream → {R : Type} → (List UInt8 → G_Stream → Option R) → Option R
structure C_Stream_ACall where
 N : Nat
 Stream_Some : T_Stream_Some
 Stream_Flip : T_Stream_Flip
def Stream_ACall_ (g : C_Stream_ACall) (a1 : G_Stream) {R : Type} (k0 : List UInt8 → G_Stream → Option R) : Option R :=
 (g.Stream_Flip a1 60 (fun r2 r3 => (bif r2 then (g.Stream_Some r3 [[], [107, 49], [75, 49, 65, 66], [107, 49, 97, 98, 47], [49, 97], [107, 49, 97, 98, 47, 109, 109, 47, 112]] (fun r4 r5 => k0 r4 r5)) else (g.Stream_Some r3 [[107, 49, 97, 98], [107, 49, 97, 97], [107, 49, 97, 98, 47, 52], [111, 104, 50, 97, 98, 99], [111, 104, 50, 97, 98, 100], [119, 49, 97, 119], [110, 49, 109, 109], [103, 51, 120, 121, 122, 47, 112]] (fun r6 r7 => k0 r6 r7)))))
noncomputable def I_Stream_ACall [Fuel] : C_Stream_ACall := ⟨NN, @Stream_Some _, @Stream_Flip _⟩
noncomputable def Stream_ACall [Fuel] : T_Stream_ACall := @Stream_ACall_ I_Stream_ACall
def SS_Stream_ACall (g : T_Stream_ACall) : Spec A := fun args => match args with | [.box [.d (.sl 3 a1), .d (.int .i64 a2)]] => fun k => g ⟨a1, a2⟩ (fun z0 z1 => k (.d (.str z0)) [.box [.d (.sl 3 z1.f_L), .d (.int .i64 z1.f_at)]]) | _ => fun _ => none
noncomputable def code_69 : Code := (Tryz.f69.body).getD .skip
noncomputable def E_Stream_ACall (g : C_Stream_ACall) : Env A := mkE [(70, SS_Stream_Some g.Stream_Some), (71, SS_Stream_Flip g.Stream_Flip)] [(6, [1]), (9, [2])] [] [] [] [] [] [] [] [0]
theorem sm_Stream_ACall (g : C_Stream_ACall) : Same (SS_Stream_ACall (@Stream_ACall_ g)) (abody (E_Stream_ACall g) Tryz.f69 code_69 3 [0] [.asis] g.N) := by intro args; unfold SS_Stream_ACall; split; exact .inr fun R k => (by kernel_rfl); exact .inl fun R k => rfl
theorem ok_Stream_ACall [Fuel] : Ok 69 (SS_Stream_ACall (@Stream_ACall _)) := okF_of std (.cons ok_Stream_Some (.cons ok_Stream_Flip .nil)) ⟨rfl, rfl, by kernel_rfl, rfl, rfl, rfl⟩ (sm_Stream_ACall I_Stream_ACall) (cuts0 (fun _ => rfl) (by kernel_rfl)) Tryz.func69 (by kernel_rfl) (by kernel_rfl)
abbrev T_Stream_Odd : Type 1 := G_Stream → Int → Int → {R : Type} → (Int → G_Stream → Option R) → Option R
structure C_Stream_Odd where
 N : Nat
 Stream_Range : T_Stream_Range
 Stream_Pick : T_Stream_Pick
 Stream_Flip : T_Stream_Flip
def Stream_Odd_ (g : C_Stream_Odd) (a1 : G_Stream) (a2 a3 : Int) {R : Type} (k0 : Int → G_Stream → Option R) : Option R :=
 (g.Stream_Flip a1 12 (fun r4 r5 => (bif r4 then (g.Stream_Pick r5 [(w64 (a2 - 1)), (w64 (a3 + 1)), a2, a3, (-1099511627776), 1099511627776] (fun r6 r7 => k0 r6 r7)) else (g.Stream_Range r5 a2 a3 (fun r8 r9 => k0 r8 r9)))))
noncomputable def I_Stream_Odd [Fuel] : C_Stream_Odd := ⟨NN, @Stream_Range _, @Stream_Pick _, @Stream_Flip _⟩
noncomputable def Stream_Odd [Fuel] : T_Stream_Odd := @Stream_Odd_ I_Stream_Odd
def SS_Stream_Odd (g : T_Stream_Odd) : Spec A := fun args => match args with | [.box [.d (.sl 3 a1), .d (.int .i64 a2)], .d (.int .i64 a3), .d (.int .i64 a4)] => fun k => g ⟨a1, a2⟩ a3 a4 (fun z0 z1 => k (.d (.int .i64 z0)) [.box [.d (.sl 3 z1.f_L), .d (.int .i64 z1.f_at)], .undef, .undef]) | _ => fun _ => none
noncomputable def code_72 : Code := (Tryz.f72.body).getD .skip
noncomputable def E_Stream_Odd (g : C_Stream_Odd) : Env A := mkE [(8, SS_Stream_Range g.Stream_Range), (44, SS_Stream_Pick g.Stream_Pick), (71, SS_Stream_Flip g.Stream_Flip)] [(16, [1])] [] [] [] [] [] [] [] [0]
theorem sm_Stream_Odd (g : C_Stream_Odd) : Same (SS_Stream_Odd (@Stream_Odd_ g)) (abody (E_Stream_Odd g) Tryz.f72 code_72 2 [0] [.asis] g.N) := by intro args; unfold SS_Stream_Odd; split; exact .inr fun R k => (by kernel_rfl); exact .inl fun R k => rfl
theorem ok_Stream_Odd [Fuel] : Ok 72 (SS_Stream_Odd (@Stream_Odd _)) := okF_of std (.cons ok_Stream_Range (.cons ok_Stream_Pick (.cons ok_Stream_Flip .nil))) ⟨rfl, rfl, by kernel_rfl, rfl, rfl, rfl⟩ (sm_Stream_Odd I_Stream_Odd) (cuts0 (fun _ => rfl) (by kernel_rfl)) Tryz.func72 (by kernel_rfl) (by kernel_rfl)
abbrev T_Q_sign : Type 1 := Int → {R : Type} → (Int → Option R) → Option R
def Q_sign_ (g : Nat) (a1 : Int) {R : Type} (k0 : Int → Option R) : Option R :=
 (bif (decide (a1 < 0)) then k0 (-1) else (bif (decide (a1 > 0)) then k0 1 else k0 0))
noncomputable def Q_sign [Fuel] : T_Q_sign := @Q_sign_ NN
def SS_Q_sign (g : T_Q_sign) : Spec A := fun args => match args with | [.d (.int .i64 a1)] => fun k => g a1 (fun z0 => k (.d (.int .i64 z0)) [.undef]) | _ => fun _ => none
noncomputable def code_117 : Code := (Tryz.f117.body).getD .skip
noncomputable def E_Q_sign (g : Nat) : Env A := mkE [] [] [] [] [] [] [] [] [] []
theorem sm_Q_sign (g : Nat) : Same (SS_Q_sign (@Q_sign_ g)) (abody (E_Q_sign g) Tryz.f117 code_117 0 [] [.asis] g) := by intro args; unfold SS_Q_sign; split; exact .inr fun R k => (by kernel_rfl); exact .inl fun R k => rfl
theorem ok_Q_sign [Fuel] : Ok 117 (SS_Q_sign (@Q_sign _)) := okF_of std .nil ⟨rfl, rfl, by kernel_rfl, rfl, rfl, rfl⟩ (sm_Q_sign NN) (cuts0 (fun _ => rfl) (by kernel_rfl)) Tryz.func117 (by kernel_rfl) (by kernel_rfl)
abbrev T_strings_Compare : Type 1 := List UInt8 → List UInt8 → {R : Type} → (Int → Option R) → Option R
def strings_Compare [Fuel] : T_strings_Compare := @X_cmp
def SS_strings_Compare (g : T_strings_Compare) : Spec A := SSX_cmp g
theorem ok_strings_Compare [Fuel] : Ok 118 (SS_strings_Compare (@strings_Compare _)) := ⟨ssx_cmp_sound (cmp_sound (Any.strings_Compare Tryz.lays106)), ssx_cmp_nat, enters_of (fn := Tryz.f118) Tryz.func118 (by kernel_rfl) (by kernel_rfl)⟩
theorem okd_strings_Compare [Fuel] : OkD 118 (SS_strings_Compare (@strings_Compare _)) := ⟨ssx_cmp_sound (cmp_sound (Any.strings_Compare Tryz.lays106)), ssx_cmp_nat, enters_of (fn := Tryz.f118) Tryz.func118 (by kernel_rfl) (by kernel_rfl)⟩
abbrev T_Q_CardOrder : Type 1 := G_Card → G_Card → {R : Type} → (Int → Option R) → Option R
structure C_Q_CardOrder where
 N : Nat
 Q_sign : T_Q_sign
 strings_Compare : T_strings_Compare
def Q_CardOrder_ (g : C_Q_CardOrder) (a1 a2 : G_Card) {R : Type} (k0 : Int → Option R) : Option R :=
 (bif (a1.f_At != a2.f_At) then (g.Q_sign (w64 (a1.f_At - a2.f_At)) (fun r3 => k0 r3)) else (bif (!(a1.f_Call == a2.f_Call)) then (g.strings_Compare a1.f_Call a2.f_Call (fun r4 => k0 r4)) else (bif (!(a1.f_Band == a2.f_Band)) then (g.strings_Compare a1.f_Band a2.f_Band (fun r5 => k0 r5)) else (bif (a1.f_Mode != a2.f_Mode) then (g.Q_sign (w64 (a1.f_Mode - a2.f_Mode)) (fun r6 => k0 r6)) else (g.Q_sign (w64 (a1.f_Kind - a2.f_Kind)) (fun r7 => k0 r7))))))
noncomputable def I_Q_CardOrder [Fuel] : C_Q_CardOrder := ⟨NN, @Q_sign _, @strings_Compare _⟩
noncomputable def Q_CardOrder [Fuel] : T_Q_CardOrder := @Q_CardOrder_ I_Q_CardOrder
def SS_Q_CardOrder (g : T_Q_CardOrder) : Spec A := fun args => match args with | [.agg [.d (.int .i64 a1), .d (.int .i64 a2), .d (.int .i64 a3), .d (.str a4), .d (.str a5)], .agg [.d (.int .i64 a6), .d (.int .i64 a7), .d (.int .i64 a8), .d (.str a9), .d (.str a10)]] => fun k => g ⟨a1, a2, a3, a4, a5⟩ ⟨a6, a7, a8, a9, a10⟩ (fun z0 => k (.d (.int .i64 z0)) [.undef, .undef]) | _ => fun _ => none
noncomputable def code_74 : Code := (Tryz.f74.body).getD .skip
noncomputable def E_Q_CardOrder (g : C_Q_CardOrder) : Env A := mkE [(117, SS_Q_sign g.Q_sign), (118, SS_strings_Compare g.strings_Compare)] [(2, [0]), (3, [1])] [] [] [] [] [] [] [] []
theorem sm_Q_CardOrder (g : C_Q_CardOrder) : Same (SS_Q_CardOrder (@Q_CardOrder_ g)) (abody (E_Q_CardOrder g) Tryz.f74 code_74 2 [] [.asis] g.N) := by intro args; unfold SS_Q_CardOrder; split; exact .inr fun R k => (by kernel_rfl); exact .inl fun R k => rfl
theorem ok_Q_CardOrder [Fuel] : Ok 74 (SS_Q_CardOrder (@Q_CardOrder _)) := okF_of std (.cons ok_Q_sign (.cons ok_strings_Compare .nil)) ⟨rfl, rfl, by kernel_rfl, rfl, rfl, rfl⟩ (sm_Q_CardOrder I_Q_CardOrder) (cuts0 (fun _ => rfl) (by kernel_rfl)) Tryz.func74 (by kernel_rfl) (by kernel_rfl)
abbrev T_slices_insertionSortCmpFunc__Card_Q_CardOrder : Type 1 := List G_Card → Int → Int → {R : Type} → (List G_Card → Option R) → Option R
structure C_slices_insertionSortCmpFunc__Card_Q_CardOrder where
 N : Nat
 Q_CardOrder : T_Q_CardOrder
def slices_insertionSortCmpFunc__Card_Q_CardOrder_L4 (g : C_slices_insertionSortCmpFunc__Card_Q_CardOrder) : Nat → Int → Int → Int → Int → List G_Card → {R : Type} → (Int → Int → Int → List G_Card → Option R) → Option R
 | 0, _, _, _, _, _, _, _ => none
 | n + 1, v31, v32, v33, v34, v35, _, e0 => (bif (decide (v34 > v31)) then (inr v35 v34 (at_ v35 v34 fun x43 => (inr v35 (w64 (v34 - 1)) (at_ v35 (w64 (v34 - 1)) fun x44 => (g.Q_CardOrder x43 x44 (fun r45 => (bif (decide (r45 < 0)) then (inr v35 (w64 (v34 - 1)) (at_ v35 (w64 (v34 - 1)) fun x46 => (inr v35 v34 (at_ v35 v34 fun x47 => (inr v35 v34 (at_ v35 v34 fun x48 => (inr (set_ v35 v34 x46) (w64 (v34 - 1)) (at_ (set_ v35 v34 x46) (w64 (v34 - 1)) fun x49 => slices_insertionSortCmpFunc__Card_Q_CardOrder_L4 g n v31 v32 v33 (w64 (v34 - 1)) (set_ (set_ v35 v34 x46) (w64 (v34 - 1)) x47) e0)))))))) else e0 v31 v32 v33 v35))))))) else e0 v31 v32 v33 v35)
def slices_insertionSortCmpFunc__Card_Q_CardOrder_L1 (g : C_slices_insertionSortCmpFunc__Card_Q_CardOrder) : Nat → Int → Int → Int → List G_Card → {R : Type} → (List G_Card → Option R) → Option R
 | 0, _, _, _, _, _, _ => none
 | n + 1, v4, v5, v6, v7, _, e0 => (bif (decide (v6 < v5)) then (slices_insertionSortCmpFunc__Card_Q_CardOrder_L4 g g.N v4 v5 v6 v6 v7 (fun e50 e51 e52 e53 => slices_insertionSortCmpFunc__Card_Q_CardOrder_L1 g n e50 e51 (w64 (e52 + 1)) e53 e0)) else e0 v7)
def slices_insertionSortCmpFunc__Card_Q_CardOrder_ (g : C_slices_insertionSortCmpFunc__Card_Q_CardOrder) (a1 : List G_Card) (a2 a3 : Int) {R : Type} (k0 : List G_Card → Option R) : Option R :=
 (slices_insertionSortCmpFunc__Card_Q_CardOrder_L1 g g.N a2 a3 (w64 (a2 + 1)) a1 (fun e54 => k0 e54))
noncomputable def I_slices_insertionSortCmpFunc__Card_Q_CardOrder [Fuel] : C_slices_insertionSortCmpFunc__Card_Q_CardOrder := ⟨NN, @Q_CardOrder _⟩
noncomputable def slices_insertionSortCmpFunc__Card_Q_CardOrder [Fuel] : T_slices_insertionSortCmpFunc__Card_Q_CardOrder := @slices_insertionSortCmpFunc__Card_Q_CardOrder_ I_slices_insertionSortCmpFunc__Card_Q_CardOrder
def SS_slices_insertionSortCmpFunc__Card_Q_CardOrder (g : T_slices_insertionSortCmpFunc__Card_Q_CardOrder) : Spec A := fun args => match args with | [.arr 51 a1, .d (.int .i64 a2), .d (.int .i64 a3), .fn 74 []] => fun k => g a1 a2 a3 (fun z0 => k (.tup []) [.arr 51 z0, .undef, .undef, .fn 74 []]) | _ => fun _ => none
def sh_slices_insertionSortCmpFunc__Card_Q_CardOrder_L4 : SSt := mkSh 53 1 [(0, .own 51 0), (1, .int .i64), (2, .int .i64), (3, .fn 74 []), (8, .int .i64), (9, .int .i64)] [(0, .row 51)]
def LP_slices_insertionSortCmpFunc__Card_Q_CardOrder_L4 (g : C_slices_insertionSortCmpFunc__Card_Q_CardOrder) (n : Nat) : LPT A := fun ps => match ps with | [.d (.int .i64 p1), .d (.int .i64 p2), .d (.int .i64 p3), .d (.int .i64 p4), .d (.sl 51 p5)] => fun K => slices_insertionSortCmpFunc__Card_Q_CardOrder_L4 g n p1 p2 p3 p4 p5 (fun z0 z1 z2 z3 => K (.exit 2) (mkSt 53 1 [(0, .own 51 0), (1, .d (.int .i64 z0)), (2, .d (.int .i64 z1)), (3, .fn 74 []), (8, .d (.int .i64 z2))] [(0, some (.row 51 z3))])) | _ => fun _ => none
def sh_slices_insertionSortCmpFunc__Card_Q_CardOrder_L1 : SSt := mkSh 53 1 [(0, .own 51 0), (1, .int .i64), (2, .int .i64), (3, .fn 74 []), (8, .int .i64)] [(0, .row 51)]
def LP_slices_insertionSortCmpFunc__Card_Q_CardOrder_L1 (g : C_slices_insertionSortCmpFunc__Card_Q_CardOrder) (n : Nat) : LPT A := fun ps => match ps with | [.d (.int .i64 p1), .d (.int .i64 p2), .d (.int .i64 p3), .d (.sl 51 p4)] => fun K => slices_insertionSortCmpFunc__Card_Q_CardOrder_L1 g n p1 p2 p3 p4 (fun z0 => K (.exit 0) (mkSt 53 1 [(0, .own 51 0), (3, .fn 74 [])] [(0, some (.row 51 z0))])) | _ => fun _ => none
noncomputable def code_175 : Code := (Tryz.f175.body).getD .skip
noncomputable def E_slices_insertionSortCmpFunc__Card_Q_CardOrder (g : C_slices_insertionSortCmpFunc__Card_Q_CardOrder) : Env A := mkE [(74, SS_Q_CardOrder g.Q_CardOrder)] [] [(4, ⟨[0, 1, 2, 3, 8, 9], [], [0], [], [], [], []⟩), (1, ⟨[0, 1, 2, 3, 8], [], [0], [], [], [], []⟩)] [(4, ⟨[0, 1, 2, 3, 8], [], [0], [], [], [], []⟩), (1, ⟨[0, 3], [], [0], [], [], [], []⟩)] [(4, pieceOf sh_slices_insertionSortCmpFunc__Card_Q_CardOrder_L4 (LP_slices_insertionSortCmpFunc__Card_Q_CardOrder_L4 g g.N)), (1, pieceOf sh_slices_insertionSortCmpFunc__Card_Q_CardOrder_L1 (LP_slices_insertionSortCmpFunc__Card_Q_CardOrder_L1 g g.N))] [] [] [] [] [0, 3]
theorem ct_slices_insertionSortCmpFunc__Card_Q_CardOrder [Fuel] : NatTab (E_slices_insertionSortCmpFunc__Card_Q_CardOrder I_slices_insertionSortCmpFunc__Card_Q_CardOrder).C := ct_of (P := Tryz.prog) (T := T) (.cons ok_Q_CardOrder .nil) (by kernel_rfl)
noncomputable def cb_slices_insertionSortCmpFunc__Card_Q_CardOrder_L4 : Code := sub [1, 0, 0, 1, 0, 0, 1, 0, 0] code_175
theorem s_slices_insertionSortCmpFunc__Card_Q_CardOrder_L4 (g : C_slices_insertionSortCmpFunc__Card_Q_CardOrder) (n : Nat) : StepOk (E_slices_insertionSortCmpFunc__Card_Q_CardOrder g) g.N cb_slices_insertionSortCmpFunc__Card_Q_CardOrder_L4 sh_slices_insertionSortCmpFunc__Card_Q_CardOrder_L4 (LP_slices_insertionSortCmpFunc__Card_Q_CardOrder_L4 g) n := by intro ps; unfold LP_slices_insertionSortCmpFunc__Card_Q_CardOrder_L4; split; exact .inr fun R K => (by kernel_rfl); exact .inl fun R K => rfl
theorem lf_slices_insertionSortCmpFunc__Card_Q_CardOrder_L4 [Fuel] : LoopFine (E_slices_insertionSortCmpFunc__Card_Q_CardOrder I_slices_insertionSortCmpFunc__Card_Q_CardOrder) NN cb_slices_insertionSortCmpFunc__Card_Q_CardOrder_L4 := fine_loop sh_slices_insertionSortCmpFunc__Card_Q_CardOrder_L4 (LP_slices_insertionSortCmpFunc__Card_Q_CardOrder_L4 I_slices_insertionSortCmpFunc__Card_Q_CardOrder) (by kernel_rfl) ct_slices_insertionSortCmpFunc__Card_Q_CardOrder (cuts0 (fun _ => rfl) (by kernel_rfl)) (fun ps R K => by unfold LP_slices_insertionSortCmpFunc__Card_Q_CardOrder_L4; split <;> (try unfold slices_insertionSortCmpFunc__Card_Q_CardOrder_L4) <;> rfl) (s_slices_insertionSortCmpFunc__Card_Q_CardOrder_L4 I_slices_insertionSortCmpFunc__Card_Q_CardOrder)
noncomputable def cb_slices_insertionSortCmpFunc__Card_Q_CardOrder_L1 : Code := sub [1, 0, 0] code_175
theorem s_slices_insertionSortCmpFunc__Card_Q_CardOrder_L1 (g : C_slices_insertionSortCmpFunc__Card_Q_CardOrder) (n : Nat) : StepOk (E_slices_insertionSortCmpFunc__Card_Q_CardOrder g) g.N cb_slices_insertionSortCmpFunc__Card_Q_CardOrder_L1 sh_slices_insertionSortCmpFunc__Card_Q_CardOrder_L1 (LP_slices_insertionSortCmpFunc__Card_Q_CardOrder_L1 g) n := by intro ps; unfold LP_slices_insertionSortCmpFunc__Card_Q_CardOrder_L1; split; exact .inr fun R K => (by kernel_rfl); exact .inl fun R K => rfl
theorem lf_slices_insertionSortCmpFunc__Card_Q_CardOrder_L1 [Fuel] : LoopFine (E_slices_insertionSortCmpFunc__Card_Q_CardOrder I_slices_insertionSortCmpFunc__Card_Q_CardOrder) NN cb_slices_insertionSortCmpFunc__Card_Q_CardOrder_L1 := fine_loop sh_slices_insertionSortCmpFunc__Card_Q_CardOrder_L1 (LP_slices_insertionSortCmpFunc__Card_Q_CardOrder_L1 I_slices_insertionSortCmpFunc__Card_Q_CardOrder) (by kernel_rfl) ct_slices_insertionSortCmpFunc__Card_Q_CardOrder (cutsL (fun _ => rfl) (.cons lf_slices_insertionSortCmpFunc__Card_Q_CardOrder_L4 .nil) (by kernel_rfl)) (fun ps R K => by unfold LP_slices_insertionSortCmpFunc__Card_Q_CardOrder_L1; split <;> (try unfold slices_insertionSortCmpFunc__Card_Q_CardOrder_L1) <;> rfl) (s_slices_insertionSortCmpFunc__Card_Q_CardOrder_L1 I_slices_insertionSortCmpFunc__Card_Q_CardOrder)
theorem sm_slices_insertionSortCmpFunc__Card_Q_CardOrder (g : C_slices_insertionSortCmpFunc__Card_Q_CardOrder) : Same (SS_slices_insertionSortCmpFunc__Card_Q_CardOrder (@slices_insertionSortCmpFunc__Card_Q_CardOrder_ g)) (abody (E_slices_insertionSortCmpFunc__Card_Q_CardOrder g) Tryz.f175 code_175 1 [0] [] g.N) := by intro args; unfold SS_slices_insertionSortCmpFunc__Card_Q_CardOrder; split; exact .inr fun R k => (by kernel_rfl); exact .inl fun R k => rfl
theorem ok_slices_insertionSortCmpFunc__Card_Q_CardOrder [Fuel] : Ok 175 (SS_slices_insertionSortCmpFunc__Card_Q_CardOrder (@slices_insertionSortCmpFunc__Card_Q_CardOrder _)) := okF_of std (.cons ok_Q_CardOrder .nil) ⟨rfl, rfl, by kernel_rfl, rfl, rfl, rfl⟩ (sm_slices_insertionSortCmpFunc__Card_Q_CardOrder I_slices_insertionSortCmpFunc__Card_Q_CardOrder) (cutsL (fun _ => rfl) (.cons lf_slices_insertionSortCmpFunc__Card_Q_CardOrder_L4 (.cons lf_slices_insertionSortCmpFunc__Card_Q_CardOrder_L1 .nil)) (by kernel_rfl)) Tryz.func175 (by kernel_rfl) (by kernel_rfl)
abbrev T_slices_stableCmpFunc__Card_Q_CardOrder : Type 1 := List G_Card → Int → {R : Type} → (List G_Card → Option R) → Option R
structure C_slices_stableCmpFunc__Card_Q_CardOrder where
 N : Nat
 slices_insertionSortCmpFunc__Card_Q_CardOrder : T_slices_insertionSortCmpFunc__Card_Q_CardOrder
def slices_stableCmpFunc__Card_Q_CardOrder_L2 (g : C_slices_stableCmpFunc__Card_Q_CardOrder) : Nat → Int → Int → Int → Int → List G_Card → {R : Type} → (Int → Int → Int → List G_Card → Option R) → Option R
 | 0, _, _, _, _, _, _, _ => none
 | n + 1, v3, v4, v5, v6, v7, _, e0 => (bif (decide (v6 ≤ v3)) then (g.slices_insertionSortCmpFunc__Card_Q_CardOrder v7 v5 v6 (fun r9 => slices_stableCmpFunc__Card_Q_CardOrder_L2 g n v3 v4 v6 (w64 (v6 + v4)) r9 e0)) else e0 v3 v4 v5 v7)
def slices_stableCmpFunc__Card_Q_CardOrder_L9 (g : C_slices_stableCmpFunc__Card_Q_CardOrder) : Nat → Int → Int → Int → Int → List G_Card → {R : Type} → (Int → Int → Int → List G_Card → Option R) → Option R
 | 0, _, _, _, _, _, _, _ => none
 | n + 1, v27, v28, v29, v30, v31, _, e0 => (bif (decide (v30 ≤ v27)) then none else e0 v27 v28 v29 v31)
def slices_stableCmpFunc__Card_Q_CardOrder_L7 (g : C_slices_stableCmpFunc__Card_Q_CardOrder) : Nat → Int → Int → List G_Card → {R : Type} → (List G_Card → Option R) → Option R
 | 0, _, _, _, _, _ => none
 | n + 1, v15, v16, v17, _, e0 => (bif (decide (v16 < v15)) then (slices_stableCmpFunc__Card_Q_CardOrder_L9 g g.N v15 v16 0 (w64 (2 * v16)) v17 (fun e32 e33 e34 e35 => (bif (decide ((w64 (e34 + e33)) < e32)) then none else slices_stableCmpFunc__Card_Q_CardOrder_L7 g n e32 (w64 (e33 * 2)) e35 e0))) else e0 v17)
def slices_stableCmpFunc__Card_Q_CardOrder_ (g : C_slices_stableCmpFunc__Card_Q_CardOrder) (a1 : List G_Card) (a2 : Int) {R : Type} (k0 : List G_Card → Option R) : Option R :=
 (slices_stableCmpFunc__Card_Q_CardOrder_L2 g g.N a2 20 0 20 a1 (fun e10 e11 e12 e13 => (g.slices_insertionSortCmpFunc__Card_Q_CardOrder e13 e12 e10 (fun r14 => (slices_stableCmpFunc__Card_Q_CardOrder_L7 g g.N e10 e11 r14 (fun e36 => k0 e36))))))
noncomputable def I_slices_stableCmpFunc__Card_Q_CardOrder [Fuel] : C_slices_stableCmpFunc__Card_Q_CardOrder := ⟨NN, @slices_insertionSortCmpFunc__Card_Q_CardOrder _⟩
noncomputable def slices_stableCmpFunc__Card_Q_CardOrder [Fuel] : T_slices_stableCmpFunc__Card_Q_CardOrder := @slices_stableCmpFunc__Card_Q_CardOrder_ I_slices_stableCmpFunc__Card_Q_CardOrder
def SS_slices_stableCmpFunc__Card_Q_CardOrder (g : T_slices_stableCmpFunc__Card_Q_CardOrder) : Spec A := fun args => match args with | [.arr 51 a1, .d (.int .i64 a2), .fn 74 []] => fun k => g a1 a2 (fun z0 => k (.tup []) [.arr 51 z0, .undef, .fn 74 []]) | _ => fun _ => none
def sh_slices_stableCmpFunc__Card_Q_CardOrder_L2 : SSt := mkSh 63 1 [(0, .own 51 0), (1, .int .i64), (2, .fn 74 []), (6, .int .i64), (7, .int .i64), (8, .int .i64)] [(0, .row 51)]
def LP_slices_stableCmpFunc__Card_Q_CardOrder_L2 (g : C_slices_stableCmpFunc__Card_Q_CardOrder) (n : Nat) : LPT A := fun ps => match ps with | [.d (.int .i64 p1), .d (.int .i64 p2), .d (.int .i64 p3), .d (.int .i64 p4), .d (.sl 51 p5)] => fun K => slices_stableCmpFunc__Card_Q_CardOrder_L2 g n p1 p2 p3 p4 p5 (fun z0 z1 z2 z3 => K (.exit 0) (mkSt 63 1 [(0, .own 51 0), (1, .d (.int .i64 z0)), (2, .fn 74 []), (6, .d (.int .i64 z1)), (7, .d (.int .i64 z2))] [(0, some (.row 51 z3))])) | _ => fun _ => none
def sh_slices_stableCmpFunc__Card_Q_CardOrder_L9 : SSt := mkSh 63 1 [(0, .own 51 0), (1, .int .i64), (2, .fn 74 []), (6, .int .i64), (7, .int .i64), (8, .int .i64)] [(0, .row 51)]
def LP_slices_stableCmpFunc__Card_Q_CardOrder_L9 (g : C_slices_stableCmpFunc__Card_Q_CardOrder) (n : Nat) : LPT A := fun ps => match ps with | [.d (.int .i64 p1), .d (.int .i64 p2), .d (.int .i64 p3), .d (.int .i64 p4), .d (.sl 51 p5)] => fun K => slices_stableCmpFunc__Card_Q_CardOrder_L9 g n p1 p2 p3 p4 p5 (fun z0 z1 z2 z3 => K (.exit 4) (mkSt 63 1 [(0, .own 51 0), (1, .d (.int .i64 z0)), (2, .fn 74 []), (6, .d (.int .i64 z1)), (7, .d (.int .i64 z2))] [(0, some (.row 51 z3))])) | _ => fun _ => none
def sh_slices_stableCmpFunc__Card_Q_CardOrder_L7 : SSt := mkSh 63 1 [(0, .own 51 0), (1, .int .i64), (2, .fn 74 []), (6, .int .i64)] [(0, .row 51)]
def LP_slices_stableCmpFunc__Card_Q_CardOrder_L7 (g : C_slices_stableCmpFunc__Card_Q_CardOrder) (n : Nat) : LPT A := fun ps => match ps with | [.d (.int .i64 p1), .d (.int .i64 p2), .d (.sl 51 p3)] => fun K => slices_stableCmpFunc__Card_Q_CardOrder_L7 g n p1 p2 p3 (fun z0 => K (.exit 2) (mkSt 63 1 [(0, .own 51 0), (2, .fn 74 [])] [(0, some (.row 51 z0))])) | _ => fun _ => none
noncomputable def code_132 : Code := (Tryz.f132.body).getD .skip
noncomputable def E_slices_stableCmpFunc__Card_Q_CardOrder (g : C_slices_stableCmpFunc__Card_Q_CardOrder) : Env A := mkE [(175, SS_slices_insertionSortCmpFunc__Card_Q_CardOrder g.slices_insertionSortCmpFunc__Card_Q_CardOrder)] [] [(2, ⟨[0, 1, 2, 6, 7, 8], [], [0], [], [], [], []⟩), (9, ⟨[0, 1, 2, 6, 7, 8], [], [0], [], [], [], []⟩), (7, ⟨[0, 1, 2, 6], [], [0], [], [], [], []⟩)] [(2, ⟨[0, 1, 2, 6, 7], [], [0], [], [], [], []⟩), (9, ⟨[0, 1, 2, 6, 7], [], [0], [], [], [], []⟩), (7, ⟨[0, 2], [], [0], [], [], [], []⟩)] [(2, pieceOf sh_slices_stableCmpFunc__Card_Q_CardOrder_L2 (LP_slices_stableCmpFunc__Card_Q_CardOrder_L2 g g.N)), (9, pieceOf sh_slices_stableCmpFunc__Card_Q_CardOrder_L9 (LP_slices_stableCmpFunc__Card_Q_CardOrder_L9 g g.N)), (7, pieceOf sh_slices_stableCmpFunc__Card_Q_CardOrder_L7 (LP_slices_stableCmpFunc__Card_Q_CardOrder_L7 g g.N))] [] [] [] [(175, 0)] [0, 2]
theorem ct_slices_stableCmpFunc__Card_Q_CardOrder [Fuel] : NatTab (E_slices_stableCmpFunc__Card_Q_CardOrder I_slices_stableCmpFunc__Card_Q_CardOrder).C := ct_of (P := Tryz.prog) (T := T) (.cons ok_slices_insertionSortCmpFunc__Card_Q_CardOrder .nil) (by kernel_rfl)
noncomputable def cb_slices_stableCmpFunc__Card_Q_CardOrder_L2 : Code := sub [1, 1, 0, 0, 0] code_132
theorem s_slices_stableCmpFunc__Card_Q_CardOrder_L2 (g : C_slices_stableCmpFunc__Card_Q_CardOrder) (n : Nat) : StepOk (E_slices_stableCmpFunc__Card_Q_CardOrder g) g.N cb_slices_stableCmpFunc__Card_Q_CardOrder_L2 sh_slices_stableCmpFunc__Card_Q_CardOrder_L2 (LP_slices_stableCmpFunc__Card_Q_CardOrder_L2 g) n := by intro ps; unfold LP_slices_stableCmpFunc__Card_Q_CardOrder_L2; split; exact .inr fun R K => (by kernel_rfl); exact .inl fun R K => rfl
theorem lf_slices_stableCmpFunc__Card_Q_CardOrder_L2 [Fuel] : LoopFine (E_slices_stableCmpFunc__Card_Q_CardOrder I_slices_stableCmpFunc__Card_Q_CardOrder) NN cb_slices_stableCmpFunc__Card_Q_CardOrder_L2 := fine_loop sh_slices_stableCmpFunc__Card_Q_CardOrder_L2 (LP_slices_stableCmpFunc__Card_Q_CardOrder_L2 I_slices_stableCmpFunc__Card_Q_CardOrder) (by kernel_rfl) ct_slices_stableCmpFunc__Card_Q_CardOrder (cuts0 (fun _ => rfl) (by kernel_rfl)) (fun ps R K => by unfold LP_slices_stableCmpFunc__Card_Q_CardOrder_L2; split <;> (try unfold slices_stableCmpFunc__Card_Q_CardOrder_L2) <;> rfl) (s_slices_stableCmpFunc__Card_Q_CardOrder_L2 I_slices_stableCmpFunc__Card_Q_CardOrder)
noncomputable def cb_slices_stableCmpFunc__Card_Q_CardOrder_L9 : Code := sub [1, 1, 1, 1, 0, 0, 1, 0, 1, 0, 0, 0] code_132
theorem s_slices_stableCmpFunc__Card_Q_CardOrder_L9 (g : C_slices_stableCmpFunc__Card_Q_CardOrder) (n : Nat) : StepOk (E_slices_stableCmpFunc__Card_Q_CardOrder g) g.N cb_slices_stableCmpFunc__Card_Q_CardOrder_L9 sh_slices_stableCmpFunc__Card_Q_CardOrder_L9 (LP_slices_stableCmpFunc__Card_Q_CardOrder_L9 g) n := by intro ps; unfold LP_slices_stableCmpFunc__Card_Q_CardOrder_L9; split; exact .inr fun R K => (by kernel_rfl); exact .inl fun R K => rfl
theorem lf_slices_stableCmpFunc__Card_Q_CardOrder_L9 [Fuel] : LoopFine (E_slices_stableCmpFunc__Card_Q_CardOrder I_slices_stableCmpFunc__Card_Q_CardOrder) NN cb_slices_stableCmpFunc__Card_Q_CardOrder_L9 := fine_loop sh_slices_stableCmpFunc__Card_Q_CardOrder_L9 (LP_slices_stableCmpFunc__Card_Q_CardOrder_L9 I_slices_stableCmpFunc__Card_Q_CardOrder) (by kernel_rfl) ct_slices_stableCmpFunc__Card_Q_CardOrder (cuts0 (fun _ => rfl) (by kernel_rfl)) (fun ps R K => by unfold LP_slices_stableCmpFunc__Card_Q_CardOrder_L9; split <;> (try unfold slices_stableCmpFunc__Card_Q_CardOrder_L9) <;> rfl) (s_slices_stableCmpFunc__Card_Q_CardOrder_L9 I_slices_stableCmpFunc__Card_Q_CardOrder)
noncomputable def cb_slices_stableCmpFunc__Card_Q_CardOrder_L7 : Code := sub [1, 1, 1, 1, 0, 0] code_132
theorem s_slices_stableCmpFunc__Card_Q_CardOrder_L7 (g : C_slices_stableCmpFunc__Card_Q_CardOrder) (n : Nat) : StepOk (E_slices_stableCmpFunc__Card_Q_CardOrder g) g.N cb_slices_stableCmpFunc__Card_Q_CardOrder_L7 sh_slices_stableCmpFunc__Card_Q_CardOrder_L7 (LP_slices_stableCmpFunc__Card_Q_CardOrder_L7 g) n := by intro ps; unfold LP_slices_stableCmpFunc__Card_Q_CardOrder_L7; split; exact .inr fun R K => (by kernel_rfl); exact .inl fun R K => rfl
theorem lf_slices_stableCmpFunc__Card_Q_CardOrder_L7 [Fuel] : LoopFine (E_slices_stableCmpFunc__Card_Q_CardOrder I_slices_stableCmpFunc__Card_Q_CardOrder) NN cb_slices_stableCmpFunc__Card_Q_CardOrder_L7 := fine_loop sh_slices_stableCmpFunc__Card_Q_CardOrder_L7 (LP_slices_stableCmpFunc__Card_Q_CardOrder_L7 I_slices_stableCmpFunc__Card_Q_CardOrder) (by kernel_rfl) ct_slices_stableCmpFunc__Card_Q_CardOrder (cutsL (fun _ => rfl) (.cons lf_slices_stableCmpFunc__Card_Q_CardOrder_L9 .nil) (by kernel_rfl)) (fun ps R K => by unfold LP_slices_stableCmpFunc__Card_Q_CardOrder_L7; split <;> (try unfold slices_stableCmpFunc__Card_Q_CardOrder_L7) <;> rfl) (s_slices_stableCmpFunc__Card_Q_CardOrder_L7 I_slices_stableCmpFunc__Card_Q_CardOrder)
theorem sm_slices_stableCmpFunc__Card_Q_CardOrder (g : C_slices_stableCmpFunc__Card_Q_CardOrder) : Same (SS_slices_stableCmpFunc__Card_Q_CardOrder (@slices_stableCmpFunc__Card_Q_CardOrder_ g)) (abody (E_slices_stableCmpFunc__Card_Q_CardOrder g) Tryz.f132 code_132 1 [0] [] g.N) := by intro args; unfold SS_slices_stableCmpFunc__Card_Q_CardOrder; split; exact .inr fun R k => (by kernel_rfl); exact .inl fun R k => rfl
theorem ok_slices_stableCmpFunc__Card_Q_CardOrder [Fuel] : Ok 132 (SS_slices_stableCmpFunc__Card_Q_CardOrder (@slices_stableCmpFunc__Card_Q_CardOrder _)) := okF_of std (.cons ok_slices_insertionSortCmpFunc__Card_Q_CardOrder .nil) ⟨rfl, rfl, by kernel_rfl, rfl, rfl, rfl⟩ (sm_slices_stableCmpFunc__Card_Q_CardOrder I_slices_stableCmpFunc__Card_Q_CardOrder) (cutsL (fun _ => rfl) (.cons lf_slices_stableCmpFunc__Card_Q_CardOrder_L2 (.cons lf_slices_stableCmpFunc__Card_Q_CardOrder_L9 (.cons lf_slices_stableCmpFunc__Card_Q_CardOrder_L7 .nil))) (by kernel_rfl)) Tryz.func132 (by kernel_rfl) (by kernel_rfl)
abbrev T_slices_SortStableFunc__Card_Q_CardOrder : Type 1 := List G_Card → {R : Type} → (List G_Card → Option R) → Option R
structure C_slices_SortStableFunc__Card_Q_CardOrder where
 N : Nat
 slices_stableCmpFunc__Card_Q_CardOrder : T_slices_stableCmpFunc__Card_Q_CardOrder
def slices_SortStableFunc__Card_Q_CardOrder_ (g : C_slices_SortStableFunc__Card_Q_CardOrder) (a1 : List G_Card) {R : Type} (k0 : List G_Card → Option R) : Option R :=
 (g.slices_stableCmpFunc__Card_Q_CardOrder a1 (a1.length : Int) (fun r2 => k0 r2))
noncomputable def I_slices_SortStableFunc__Card_Q_CardOrder [Fuel] : C_slices_SortStableFunc__Card_Q_CardOrder := ⟨NN, @slices_stableCmpFunc__Card_Q_CardOrder _⟩
noncomputable def slices_SortStableFunc__Card_Q_CardOrder [Fuel] : T_slices_SortStableFunc__Card_Q_CardOrder := @slices_SortStableFunc__Card_Q_CardOrder_ I_slices_SortStableFunc__Card_Q_CardOrder
def SS_slices_SortStableFunc__Card_Q_CardOrder (g : T_slices_SortStableFunc__Card_Q_CardOrder) : Spec A := fun args => match args with | [.arr 51 a1, .fn 74 []] => fun k => g a1 (fun z0 => k (.tup []) [.arr 51 z0, .fn 74 []]) | _ => fun _ => none
noncomputable def code_73 : Code := (Tryz.f73.body).getD .skip
noncomputable def E_slices_SortStableFunc__Card_Q_CardOrder (g : C_slices_SortStableFunc__Card_Q_CardOrder) : Env A := mkE [(132, SS_slices_stableCmpFunc__Card_Q_CardOrder g.slices_stableCmpFunc__Card_Q_CardOrder)] [] [] [] [] [] [] [] [(132, 0)] [0, 1]
theorem sm_slices_SortStableFunc__Card_Q_CardOrder (g : C_slices_SortStableFunc__Card_Q_CardOrder) : Same (SS_slices_SortStableFunc__Card_Q_CardOrder (@slices_SortStableFunc__Card_Q_CardOrder_ g)) (abody (E_slices_SortStableFunc__Card_Q_CardOrder g) Tryz.f73 code_73 1 [0] [] g.N) := by intro args; unfold SS_slices_SortStableFunc__Card_Q_CardOrder; split; exact .inr fun R k => (by kernel_rfl); exact .inl fun R k => rfl
theorem ok_slices_SortStableFunc__Card_Q_CardOrder [Fuel] : Ok 73 (SS_slices_SortStableFunc__Card_Q_CardOrder (@slices_SortStableFunc__Card_Q_CardOrder _)) := okF_of std (.cons ok_slices_stableCmpFunc__Card_Q_CardOrder .nil) ⟨rfl, rfl, by kernel_rfl, rfl, rfl, rfl⟩ (sm_slices_SortStableFunc__Card_Q_CardOrder I_slices_SortStableFunc__Card_Q_CardOrder) (cuts0 (fun _ => rfl) (by kernel_rfl)) Tryz.func73 (by kernel_rfl) (by kernel_rfl)
end Go.Am
