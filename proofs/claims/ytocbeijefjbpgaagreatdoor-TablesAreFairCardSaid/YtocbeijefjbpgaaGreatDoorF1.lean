/- The functions of the program as Lean functions, each shown to be what the code computes, part 1. No condition: lemmas for the claim. -/
import Derived.Test.YtocbeijefjbpgaaGreatDoorF0
import Derived.Test.YtocbeijefjbpgaaGreatDoorFSh
set_option linter.unusedVariables false
set_option maxRecDepth 100000
namespace Go.Am
open Go Go.Proofs
abbrev T_M_Below : Type 1 := Int → Int → {R : Type} → (Int → Option R) → Option R
def M_Below_ (g : Nat) (a1 a2 : Int) {R : Type} (k0 : Int → Option R) : Option R :=
 (bif (decide (a2 < 1)) then k0 0 else (bif (a2 == 0) then none else (bif (decide ((Int.tmod a1 a2) < 0)) then k0 (w64 ((Int.tmod a1 a2) + a2)) else k0 (Int.tmod a1 a2))))
noncomputable def M_Below [Fuel] : T_M_Below := @M_Below_ NN
def SS_M_Below (g : T_M_Below) : Spec A := fun args => match args with | [.d (.int .i64 a1), .d (.int .i64 a2)] => fun k => g a1 a2 (fun z0 => k (.d (.int .i64 z0)) [.undef, .undef]) | _ => fun _ => none
noncomputable def code_67 : Code := (Tryz.f67.body).getD .skip
noncomputable def E_M_Below (g : Nat) : Env A := mkE [] [] [] [] [] [] [] [] [] []
theorem sm_M_Below (g : Nat) : Same (SS_M_Below (@M_Below_ g)) (abody (E_M_Below g) Tryz.f67 code_67 0 [] [.asis] g) := by intro args; unfold SS_M_Below; split; exact .inr fun R k => (by kernel_rfl); exact .inl fun R k => rfl
theorem ok_M_Below [Fuel] : Ok 67 (SS_M_Below (@M_Below _)) := okF_of std .nil ⟨rfl, rfl, by kernel_rfl, rfl, rfl, rfl⟩ (sm_M_Below NN) (cuts0 (fun _ => rfl) (by kernel_rfl)) Tryz.func67 (by kernel_rfl) (by kernel_rfl)
abbrev T_Stream_Next : Type 1 := G_Stream → Int → {R : Type} → (Int → G_Stream → Option R) → Option R
structure C_Stream_Next where
 N : Nat
 M_Below : T_M_Below
def Stream_Next_ (g : C_Stream_Next) (a1 : G_Stream) (a2 : Int) {R : Type} (k0 : Int → G_Stream → Option R) : Option R :=
 (bif ((a1.f_L.length : Int) == 0) then (g.M_Below (w64 ((w64 (a1.f_at + 1)) * 7919)) a2 (fun r3 => k0 r3 (⟨a1.f_L, (w64 (a1.f_at + 1))⟩ : G_Stream))) else (bif ((a1.f_L.length : Int) == 0) then none else (bif ((a1.f_L.length : Int) == 0) then none else (get_ a1.f_L (Int.tmod (w64 ((w64 (a1.f_at + 1)) - 1)) (a1.f_L.length : Int)) fun x4 => (g.M_Below x4 1073741824 (fun r5 => (g.M_Below (w64 (r5 + (w64 ((w64 (Int.tdiv (w64 ((w64 (a1.f_at + 1)) - 1)) (a1.f_L.length : Int))) * (w64 (7919 + (Int.tmod (w64 ((w64 (a1.f_at + 1)) - 1)) (a1.f_L.length : Int)))))))) a2 (fun r6 => k0 r6 (⟨a1.f_L, (w64 (a1.f_at + 1))⟩ : G_Stream)))))))))
noncomputable def I_Stream_Next [Fuel] : C_Stream_Next := ⟨NN, @M_Below _⟩
noncomputable def Stream_Next [Fuel] : T_Stream_Next := @Stream_Next_ I_Stream_Next
def SS_Stream_Next (g : T_Stream_Next) : Spec A := fun args => match args with | [.box [.d (.sl 3 a1), .d (.int .i64 a2)], .d (.int .i64 a3)] => fun k => g ⟨a1, a2⟩ a3 (fun z0 z1 => k (.d (.int .i64 z0)) [.box [.d (.sl 3 z1.f_L), .d (.int .i64 z1.f_at)], .undef]) | _ => fun _ => none
noncomputable def code_34 : Code := (Tryz.f34.body).getD .skip
noncomputable def E_Stream_Next (g : C_Stream_Next) : Env A := mkE [(67, SS_M_Below g.M_Below)] [] [] [] [] [] [] [] [] [0]
theorem sm_Stream_Next (g : C_Stream_Next) : Same (SS_Stream_Next (@Stream_Next_ g)) (abody (E_Stream_Next g) Tryz.f34 code_34 1 [0] [.asis] g.N) := by intro args; unfold SS_Stream_Next; split; exact .inr fun R k => (by kernel_rfl); exact .inl fun R k => rfl
theorem ok_Stream_Next [Fuel] : Ok 34 (SS_Stream_Next (@Stream_Next _)) := okF_of std (.cons ok_M_Below .nil) ⟨rfl, rfl, by kernel_rfl, rfl, rfl, rfl⟩ (sm_Stream_Next I_Stream_Next) (cuts0 (fun _ => rfl) (by kernel_rfl)) Tryz.func34 (by kernel_rfl) (by kernel_rfl)
abbrev T_Stream_Flip : Type 1 := G_Stream → Int → {R : Type} → (Bool → G_Stream → Option R) → Option R
structure C_Stream_Flip where
 N : Nat
 Stream_Next : T_Stream_Next
def Stream_Flip_ (g : C_Stream_Flip) (a1 : G_Stream) (a2 : Int) {R : Type} (k0 : Bool → G_Stream → Option R) : Option R :=
 (g.Stream_Next a1 a2 (fun r3 r4 => k0 (r3 == 0) r4))
noncomputable def I_Stream_Flip [Fuel] : C_Stream_Flip := ⟨NN, @Stream_Next _⟩
noncomputable def Stream_Flip [Fuel] : T_Stream_Flip := @Stream_Flip_ I_Stream_Flip
def SS_Stream_Flip (g : T_Stream_Flip) : Spec A := fun args => match args with | [.box [.d (.sl 3 a1), .d (.int .i64 a2)], .d (.int .i64 a3)] => fun k => g ⟨a1, a2⟩ a3 (fun z0 z1 => k (.d (.bool z0)) [.box [.d (.sl 3 z1.f_L), .d (.int .i64 z1.f_at)], .undef]) | _ => fun _ => none
noncomputable def code_15 : Code := (Tryz.f15.body).getD .skip
noncomputable def E_Stream_Flip (g : C_Stream_Flip) : Env A := mkE [(34, SS_Stream_Next g.Stream_Next)] [] [] [] [] [] [] [] [] [0]
theorem sm_Stream_Flip (g : C_Stream_Flip) : Same (SS_Stream_Flip (@Stream_Flip_ g)) (abody (E_Stream_Flip g) Tryz.f15 code_15 1 [0] [.asis] g.N) := by intro args; unfold SS_Stream_Flip; split; exact .inr fun R k => (by kernel_rfl); exact .inl fun R k => rfl
theorem ok_Stream_Flip [Fuel] : Ok 15 (SS_Stream_Flip (@Stream_Flip _)) := okF_of std (.cons ok_Stream_Next .nil) ⟨rfl, rfl, by kernel_rfl, rfl, rfl, rfl⟩ (sm_Stream_Flip I_Stream_Flip) (cuts0 (fun _ => rfl) (by kernel_rfl)) Tryz.func15 (by kernel_rfl) (by kernel_rfl)
abbrev T_Stream_Pick : Type 1 := G_Stream → List Int → {R : Type} → (Int → G_Stream → Option R) → Option R
structure C_Stream_Pick where
 N : Nat
 Stream_Next : T_Stream_Next
def Stream_Pick_ (g : C_Stream_Pick) (a1 : G_Stream) (a2 : List Int) {R : Type} (k0 : Int → G_Stream → Option R) : Option R :=
 (g.Stream_Next a1 (a2.length : Int) (fun r3 r4 => (get_ a2 r3 fun x5 => k0 x5 r4)))
noncomputable def I_Stream_Pick [Fuel] : C_Stream_Pick := ⟨NN, @Stream_Next _⟩
noncomputable def Stream_Pick [Fuel] : T_Stream_Pick := @Stream_Pick_ I_Stream_Pick
def SS_Stream_Pick (g : T_Stream_Pick) : Spec A := fun args => match args with | [.box [.d (.sl 3 a1), .d (.int .i64 a2)], .d (.sl 3 a3)] => fun k => g ⟨a1, a2⟩ a3 (fun z0 z1 => k (.d (.int .i64 z0)) [.box [.d (.sl 3 z1.f_L), .d (.int .i64 z1.f_at)], .undef]) | _ => fun _ => none
noncomputable def code_16 : Code := (Tryz.f16.body).getD .skip
noncomputable def E_Stream_Pick (g : C_Stream_Pick) : Env A := mkE [(34, SS_Stream_Next g.Stream_Next)] [] [] [] [] [] [] [] [] [0]
theorem sm_Stream_Pick (g : C_Stream_Pick) : Same (SS_Stream_Pick (@Stream_Pick_ g)) (abody (E_Stream_Pick g) Tryz.f16 code_16 1 [0] [.asis] g.N) := by intro args; unfold SS_Stream_Pick; split; exact .inr fun R k => (by kernel_rfl); exact .inl fun R k => rfl
theorem ok_Stream_Pick [Fuel] : Ok 16 (SS_Stream_Pick (@Stream_Pick _)) := okF_of std (.cons ok_Stream_Next .nil) ⟨rfl, rfl, by kernel_rfl, rfl, rfl, rfl⟩ (sm_Stream_Pick I_Stream_Pick) (cuts0 (fun _ => rfl) (by kernel_rfl)) Tryz.func16 (by kernel_rfl) (by kernel_rfl)
abbrev T_Stream_Some : Type 1 := G_Stream → List (List UInt8) → {R : Type} → (List UInt8 → G_Stream → Option R) → Option R
structure C_Stream_Some where
 N : Nat
 Stream_Next : T_Stream_Next
def Stream_Some_ (g : C_Stream_Some) (a1 : G_Stream) (a2 : List (List UInt8)) {R : Type} (k0 : List UInt8 → G_Stream → Option R) : Option R :=
 (g.Stream_Next a1 (a2.length : Int) (fun r3 r4 => (get_ a2 r3 fun x5 => k0 x5 r4)))
noncomputable def I_Stream_Some [Fuel] : C_Stream_Some := ⟨NN, @Stream_Next _⟩
noncomputable def Stream_Some [Fuel] : T_Stream_Some := @Stream_Some_ I_Stream_Some
def SS_Stream_Some (g : T_Stream_Some) : Spec A := fun args => match args with | [.box [.d (.sl 3 a1), .d (.int .i64 a2)], .d (.sl 9 a3)] => fun k => g ⟨a1, a2⟩ a3 (fun z0 z1 => k (.d (.str z0)) [.box [.d (.sl 3 z1.f_L), .d (.int .i64 z1.f_at)], .undef]) | _ => fun _ => none
noncomputable def code_17 : Code := (Tryz.f17.body).getD .skip
noncomputable def E_Stream_Some (g : C_Stream_Some) : Env A := mkE [(34, SS_Stream_Next g.Stream_Next)] [] [] [] [] [] [] [] [] [0]
theorem sm_Stream_Some (g : C_Stream_Some) : Same (SS_Stream_Some (@Stream_Some_ g)) (abody (E_Stream_Some g) Tryz.f17 code_17 1 [0] [.asis] g.N) := by intro args; unfold SS_Stream_Some; split; exact .inr fun R k => (by kernel_rfl); exact .inl fun R k => rfl
theorem ok_Stream_Some [Fuel] : Ok 17 (SS_Stream_Some (@Stream_Some _)) := okF_of std (.cons ok_Stream_Next .nil) ⟨rfl, rfl, by kernel_rfl, rfl, rfl, rfl⟩ (sm_Stream_Some I_Stream_Some) (cuts0 (fun _ => rfl) (by kernel_rfl)) Tryz.func17 (by kernel_rfl) (by kernel_rfl)
abbrev T_Stream_Range : Type 1 := G_Stream → Int → Int → {R : Type} → (Int → G_Stream → Option R) → Option R
structure C_Stream_Range where
 N : Nat
 Stream_Next : T_Stream_Next
def Stream_Range_ (g : C_Stream_Range) (a1 : G_Stream) (a2 a3 : Int) {R : Type} (k0 : Int → G_Stream → Option R) : Option R :=
 (bif (decide (a3 < a2)) then k0 a2 a1 else (g.Stream_Next a1 (w64 ((w64 (a3 - a2)) + 1)) (fun r4 r5 => k0 (w64 (a2 + r4)) r5)))
noncomputable def I_Stream_Range [Fuel] : C_Stream_Range := ⟨NN, @Stream_Next _⟩
noncomputable def Stream_Range [Fuel] : T_Stream_Range := @Stream_Range_ I_Stream_Range
def SS_Stream_Range (g : T_Stream_Range) : Spec A := fun args => match args with | [.box [.d (.sl 3 a1), .d (.int .i64 a2)], .d (.int .i64 a3), .d (.int .i64 a4)] => fun k => g ⟨a1, a2⟩ a3 a4 (fun z0 z1 => k (.d (.int .i64 z0)) [.box [.d (.sl 3 z1.f_L), .d (.int .i64 z1.f_at)], .undef, .undef]) | _ => fun _ => none
noncomputable def code_11 : Code := (Tryz.f11.body).getD .skip
noncomputable def E_Stream_Range (g : C_Stream_Range) : Env A := mkE [(34, SS_Stream_Next g.Stream_Next)] [] [] [] [] [] [] [] [] [0]
theorem sm_Stream_Range (g : C_Stream_Range) : Same (SS_Stream_Range (@Stream_Range_ g)) (abody (E_Stream_Range g) Tryz.f11 code_11 1 [0] [.asis] g.N) := by intro args; unfold SS_Stream_Range; split; exact .inr fun R k => (by kernel_rfl); exact .inl fun R k => rfl
theorem ok_Stream_Range [Fuel] : Ok 11 (SS_Stream_Range (@Stream_Range _)) := okF_of std (.cons ok_Stream_Next .nil) ⟨rfl, rfl, by kernel_rfl, rfl, rfl, rfl⟩ (sm_Stream_Range I_Stream_Range) (cuts0 (fun _ => rfl) (by kernel_rfl)) Tryz.func11 (by kernel_rfl) (by kernel_rfl)
abbrev T_Stream_Odd : Type 1 := G_Stream → Int → Int → {R : Type} → (Int → G_Stream → Option R) → Option R
structure C_Stream_Odd where
 N : Nat
 Stream_Range : T_Stream_Range
 Stream_Flip : T_Stream_Flip
 Stream_Pick : T_Stream_Pick
def Stream_Odd_ (g : C_Stream_Odd) (a1 : G_Stream) (a2 a3 : Int) {R : Type} (k0 : Int → G_Stream → Option R) : Option R :=
 (g.Stream_Flip a1 12 (fun r4 r5 => (bif r4 then (g.Stream_Pick r5 [(w64 (a2 - 1)), (w64 (a3 + 1)), a2, a3, (-1099511627776), 1099511627776] (fun r6 r7 => k0 r6 r7)) else (g.Stream_Range r5 a2 a3 (fun r8 r9 => k0 r8 r9)))))
noncomputable def I_Stream_Odd [Fuel] : C_Stream_Odd := ⟨NN, @Stream_Range _, @Stream_Flip _, @Stream_Pick _⟩
noncomputable def Stream_Odd [Fuel] : T_Stream_Odd := @Stream_Odd_ I_Stream_Odd
def SS_Stream_Odd (g : T_Stream_Odd) : Spec A := fun args => match args with | [.box [.d (.sl 3 a1), .d (.int .i64 a2)], .d (.int .i64 a3), .d (.int .i64 a4)] => fun k => g ⟨a1, a2⟩ a3 a4 (fun z0 z1 => k (.d (.int .i64 z0)) [.box [.d (.sl 3 z1.f_L), .d (.int .i64 z1.f_at)], .undef, .undef]) | _ => fun _ => none
noncomputable def code_18 : Code := (Tryz.f18.body).getD .skip
noncomputable def E_Stream_Odd (g : C_Stream_Odd) : Env A := mkE [(11, SS_Stream_Range g.Stream_Range), (15, SS_Stream_Flip g.Stream_Flip), (16, SS_Stream_Pick g.Stream_Pick)] [(16, [1])] [] [] [] [] [] [] [] [0]
theorem sm_Stream_Odd (g : C_Stream_Odd) : Same (SS_Stream_Odd (@Stream_Odd_ g)) (abody (E_Stream_Odd g) Tryz.f18 code_18 2 [0] [.asis] g.N) := by intro args; unfold SS_Stream_Odd; split; exact .inr fun R k => (by kernel_rfl); exact .inl fun R k => rfl
theorem ok_Stream_Odd [Fuel] : Ok 18 (SS_Stream_Odd (@Stream_Odd _)) := okF_of std (.cons ok_Stream_Range (.cons ok_Stream_Flip (.cons ok_Stream_Pick .nil))) ⟨rfl, rfl, by kernel_rfl, rfl, rfl, rfl⟩ (sm_Stream_Odd I_Stream_Odd) (cuts0 (fun _ => rfl) (by kernel_rfl)) Tryz.func18 (by kernel_rfl) (by kernel_rfl)
abbrev T_Stream_Entrants : Type 1 := G_Stream → {R : Type} → (List G_Entrant → G_Stream → Option R) → Option R
structure C_Stream_Entrants where
 N : Nat
 Stream_Flip : T_Stream_Flip
 Stream_Pick : T_Stream_Pick
 Stream_Some : T_Stream_Some
 Stream_Odd : T_Stream_Odd
def Stream_Entrants_L6 (g : C_Stream_Entrants) : Nat → List UInt8 → Int → Int → Int → Int → G_Stream → List (List UInt8) → List (List UInt8) → List G_Entrant → {R : Type} → (Int → Int → G_Stream → List (List UInt8) → List G_Entrant → Option R) → Option R
 | 0, _, _, _, _, _, _, _, _, _, _, _ => none
 | n + 1, v57, v58, v59, v60, v61, v62, v63, v64, v65, _, e0 => (bif (decide (v61 < v60)) then (inr v64 v61 (at_ v64 v61 fun x83 => (g.Stream_Flip v62 3 (fun r84 r85 => (bif r84 then Stream_Entrants_L6 g n v57 v58 v59 v60 (w64 (v61 + 1)) r85 v63 v64 v65 e0 else (g.Stream_Pick r85 [0, 80, 80, 90, 100, 1000] (fun r86 r87 => (g.Stream_Some r87 [[], [107, 112, 50, 48, 108, 102]] (fun r88 r89 => (g.Stream_Flip r89 80 (fun r90 r91 => (bif r90 then (g.Stream_Some r91 [x83, []] (fun r92 r93 => (g.Stream_Some r93 [v57, [65]] (fun r94 r95 => (g.Stream_Odd r95 0 1000000000000 (fun r96 r97 => (g.Stream_Some r97 [[], [107, 112, 50, 48]] (fun r98 r99 => (bif (decide ((v65.length + [(⟨r92, r94, r96, r98⟩ : G_Entrant)].length) * 56 ≤ roomBytes')) then Stream_Entrants_L6 g n v57 v58 v59 v60 (w64 (v61 + 1)) r99 v63 v64 (v65 ++ [(⟨r92, r94, r96, r98⟩ : G_Entrant)]) e0 else none))))))))) else (bif (decide ((v65.length + [(⟨x83, v57, r86, r88⟩ : G_Entrant)].length) * 56 ≤ roomBytes')) then Stream_Entrants_L6 g n v57 v58 v59 v60 (w64 (v61 + 1)) r91 v63 v64 (v65 ++ [(⟨x83, v57, r86, r88⟩ : G_Entrant)]) e0 else none))))))))))))) else e0 v58 v59 v62 v63 v65)
def Stream_Entrants_L3 (g : C_Stream_Entrants) : Nat → Int → Int → G_Stream → List (List UInt8) → List G_Entrant → {R : Type} → (G_Stream → List G_Entrant → Option R) → Option R
 | 0, _, _, _, _, _, _, _ => none
 | n + 1, v2, v3, v4, v5, v6, _, e0 => (bif (decide (v3 < v2)) then (inr v5 v3 (at_ v5 v3 fun x56 => (Stream_Entrants_L6 g g.N x56 v2 v3 ([[107, 49, 97, 98], [107, 49, 97, 98, 47, 52], [111, 104, 50, 97, 98, 99], [111, 104, 50, 97, 98, 100], [119, 49, 97, 119]].length : Int) 0 v4 v5 [[107, 49, 97, 98], [107, 49, 97, 98, 47, 52], [111, 104, 50, 97, 98, 99], [111, 104, 50, 97, 98, 100], [119, 49, 97, 119]] v6 (fun e100 e101 e102 e103 e104 => Stream_Entrants_L3 g n e100 (w64 (e101 + 1)) e102 e103 e104 e0)))) else e0 v4 v6)
def Stream_Entrants_ (g : C_Stream_Entrants) (a1 : G_Stream) {R : Type} (k0 : List G_Entrant → G_Stream → Option R) : Option R :=
 (Stream_Entrants_L3 g g.N ([[97, 108, 108], [99, 111, 100, 101]].length : Int) 0 a1 [[97, 108, 108], [99, 111, 100, 101]] [] (fun e105 e106 => k0 e106 e105))
noncomputable def I_Stream_Entrants [Fuel] : C_Stream_Entrants := ⟨NN, @Stream_Flip _, @Stream_Pick _, @Stream_Some _, @Stream_Odd _⟩
noncomputable def Stream_Entrants [Fuel] : T_Stream_Entrants := @Stream_Entrants_ I_Stream_Entrants
def SS_Stream_Entrants (g : T_Stream_Entrants) : Spec A := fun args => match args with | [.box [.d (.sl 3 a1), .d (.int .i64 a2)]] => fun k => g ⟨a1, a2⟩ (fun z0 z1 => k (.arr 58 z0) [.box [.d (.sl 3 z1.f_L), .d (.int .i64 z1.f_at)]]) | _ => fun _ => none
def sh_Stream_Entrants_L6 : SSt := mkSh 58 13 [(0, .ptr 0 0), (3, .own 58 4), (5, .str), (9, .own 9 1), (10, .int .i64), (11, .int .i64), (15, .own 9 3), (16, .int .i64), (17, .int .i64)] [(0, .box [.sl 3, .int .i64]), (1, .row 9), (3, .row 9), (4, .row 58)]
def LP_Stream_Entrants_L6 (g : C_Stream_Entrants) (n : Nat) : LPT A := fun ps => match ps with | [.d (.str p1), .d (.int .i64 p2), .d (.int .i64 p3), .d (.int .i64 p4), .d (.int .i64 p5), .d (.sl 3 p6), .d (.int .i64 p7), .d (.sl 9 p8), .d (.sl 9 p9), .d (.sl 58 p10)] => fun K => Stream_Entrants_L6 g n p1 p2 p3 p4 p5 ⟨p6, p7⟩ p8 p9 p10 (fun z0 z1 z2 z3 z4 => K (.exit 2) (mkSt 58 13 [(0, .ptr 0 0), (3, .own 58 4), (9, .own 9 1), (10, .d (.int .i64 z0)), (11, .d (.int .i64 z1))] [(0, some (.box [.d (.sl 3 z2.f_L), .d (.int .i64 z2.f_at)])), (1, some (.row 9 z3)), (4, some (.row 58 z4))])) | _ => fun _ => none
def sh_Stream_Entrants_L3 : SSt := mkSh 58 13 [(0, .ptr 0 0), (3, .own 58 2), (9, .own 9 1), (10, .int .i64), (11, .int .i64)] [(0, .box [.sl 3, .int .i64]), (1, .row 9), (2, .row 58)]
def LP_Stream_Entrants_L3 (g : C_Stream_Entrants) (n : Nat) : LPT A := fun ps => match ps with | [.d (.int .i64 p1), .d (.int .i64 p2), .d (.sl 3 p3), .d (.int .i64 p4), .d (.sl 9 p5), .d (.sl 58 p6)] => fun K => Stream_Entrants_L3 g n p1 p2 ⟨p3, p4⟩ p5 p6 (fun z0 z1 => K (.exit 0) (mkSt 58 13 [(0, .ptr 0 0), (3, .own 58 2)] [(0, some (.box [.d (.sl 3 z0.f_L), .d (.int .i64 z0.f_at)])), (2, some (.row 58 z1))])) | _ => fun _ => none
noncomputable def code_5 : Code := (Tryz.f5.body).getD .skip
noncomputable def E_Stream_Entrants (g : C_Stream_Entrants) : Env A := mkE [(15, SS_Stream_Flip g.Stream_Flip), (16, SS_Stream_Pick g.Stream_Pick), (17, SS_Stream_Some g.Stream_Some), (18, SS_Stream_Odd g.Stream_Odd)] [(8, [7]), (9, [1]), (15, [3]), (26, [5]), (29, [6]), (36, [8]), (40, [9]), (45, [10]), (53, [11]), (54, [12])] [(6, ⟨[0, 3, 5, 9, 10, 11, 15, 16, 17], [(3, 58, 4)], [0, 1, 3], [], [], []⟩), (3, ⟨[0, 3, 9, 10, 11], [(3, 58, 2)], [0, 1], [], [], []⟩)] [(6, ⟨[0, 3, 9, 10, 11], [], [0, 1, 4], [], [], []⟩), (3, ⟨[0, 3], [], [0, 2], [], [], []⟩)] [(6, pieceOf sh_Stream_Entrants_L6 (LP_Stream_Entrants_L6 g g.N)), (3, pieceOf sh_Stream_Entrants_L3 (LP_Stream_Entrants_L3 g g.N))] [] [] [] [] [0]
theorem ct_Stream_Entrants [Fuel] : NatTab (E_Stream_Entrants I_Stream_Entrants).C := ct_of (P := Tryz.prog) (T := T) (.cons ok_Stream_Flip (.cons ok_Stream_Pick (.cons ok_Stream_Some (.cons ok_Stream_Odd .nil)))) (by kernel_rfl)
noncomputable def cb_Stream_Entrants_L6 : Code := sub [1, 1, 0, 1, 0, 0, 1, 1, 0, 0, 1, 1, 0, 0] code_5
theorem s_Stream_Entrants_L6 (g : C_Stream_Entrants) (n : Nat) : StepOk (E_Stream_Entrants g) g.N cb_Stream_Entrants_L6 sh_Stream_Entrants_L6 (LP_Stream_Entrants_L6 g) n := by intro ps; unfold LP_Stream_Entrants_L6; split; exact .inr fun R K => (by kernel_rfl); exact .inl fun R K => rfl
theorem lf_Stream_Entrants_L6 [Fuel] : LoopFine (E_Stream_Entrants I_Stream_Entrants) NN cb_Stream_Entrants_L6 := fine_loop sh_Stream_Entrants_L6 (LP_Stream_Entrants_L6 I_Stream_Entrants) (by kernel_rfl) ct_Stream_Entrants (cuts0 (fun _ => rfl) (by kernel_rfl)) (fun ps R K => by unfold LP_Stream_Entrants_L6; split <;> (try unfold Stream_Entrants_L6) <;> rfl) (s_Stream_Entrants_L6 I_Stream_Entrants)
noncomputable def cb_Stream_Entrants_L3 : Code := sub [1, 1, 0, 1, 0, 0] code_5
theorem s_Stream_Entrants_L3 (g : C_Stream_Entrants) (n : Nat) : StepOk (E_Stream_Entrants g) g.N cb_Stream_Entrants_L3 sh_Stream_Entrants_L3 (LP_Stream_Entrants_L3 g) n := by intro ps; unfold LP_Stream_Entrants_L3; split; exact .inr fun R K => (by kernel_rfl); exact .inl fun R K => rfl
theorem lf_Stream_Entrants_L3 [Fuel] : LoopFine (E_Stream_Entrants I_Stream_Entrants) NN cb_Stream_Entrants_L3 := fine_loop sh_Stream_Entrants_L3 (LP_Stream_Entrants_L3 I_Stream_Entrants) (by kernel_rfl) ct_Stream_Entrants (cutsL (fun _ => rfl) (.cons lf_Stream_Entrants_L6 .nil) (by kernel_rfl)) (fun ps R K => by unfold LP_Stream_Entrants_L3; split <;> (try unfold Stream_Entrants_L3) <;> rfl) (s_Stream_Entrants_L3 I_Stream_Entrants)
theorem sm_Stream_Entrants (g : C_Stream_Entrants) : Same (SS_Stream_Entrants (@Stream_Entrants_ g)) (abody (E_Stream_Entrants g) Tryz.f5 code_5 13 [0] [.arr 58] g.N) := by intro args; unfold SS_Stream_Entrants; split; exact .inr fun R k => (by kernel_rfl); exact .inl fun R k => rfl
theorem ok_Stream_Entrants [Fuel] : Ok 5 (SS_Stream_Entrants (@Stream_Entrants _)) := okF_of std (.cons ok_Stream_Flip (.cons ok_Stream_Pick (.cons ok_Stream_Some (.cons ok_Stream_Odd .nil)))) ⟨rfl, rfl, by kernel_rfl, rfl, rfl, rfl⟩ (sm_Stream_Entrants I_Stream_Entrants) (cutsL (fun _ => rfl) (.cons lf_Stream_Entrants_L6 (.cons lf_Stream_Entrants_L3 .nil)) (by kernel_rfl)) Tryz.func5 (by kernel_rfl) (by kernel_rfl)
abbrev T_stringslite_Index : Type 1 := List UInt8 → List UInt8 → {R : Type} → (Int → Option R) → Option R
def stringslite_Index [Fuel] : T_stringslite_Index := @X_ix1
def SS_stringslite_Index (g : T_stringslite_Index) : Spec A := SSX_ix1 g
theorem ok_stringslite_Index [Fuel] : Ok 141 (SS_stringslite_Index (@stringslite_Index _)) := ⟨ssx_ix1_sound (ix1_sound (Any.stringslite_Index_one Tryz.lays219)), ssx_ix1_nat, enters_of (fn := Tryz.f141) Tryz.func141 (by kernel_rfl) (by kernel_rfl)⟩
abbrev T_stringslite_Cut : Type 1 := List UInt8 → List UInt8 → {R : Type} → (List UInt8 → List UInt8 → Bool → Option R) → Option R
structure C_stringslite_Cut where
 N : Nat
 stringslite_Index : T_stringslite_Index
def stringslite_Cut_ (g : C_stringslite_Cut) (a1 a2 : List UInt8) {R : Type} (k0 : List UInt8 → List UInt8 → Bool → Option R) : Option R :=
 (g.stringslite_Index a1 a2 (fun r3 => (bif (decide (r3 ≥ 0)) then (bif (decide (0 ≤ r3) && decide (r3 ≤ (a1.length : Int))) then (bif (decide (0 ≤ (w64 (r3 + (a2.length : Int)))) && decide ((w64 (r3 + (a2.length : Int))) ≤ (a1.length : Int))) then k0 (a1.take (r3 : Int).toNat) (a1.drop ((w64 (r3 + (a2.length : Int))) : Int).toNat) true else none) else none) else k0 a1 [] false)))
noncomputable def I_stringslite_Cut [Fuel] : C_stringslite_Cut := ⟨NN, @stringslite_Index _⟩
noncomputable def stringslite_Cut [Fuel] : T_stringslite_Cut := @stringslite_Cut_ I_stringslite_Cut
def SS_stringslite_Cut (g : T_stringslite_Cut) : Spec A := fun args => match args with | [.d (.str a1), .d (.str a2)] => fun k => g a1 a2 (fun z0 z1 z2 => k (.tup [.d (.str z0), .d (.str z1), .d (.bool z2)]) [.undef, .undef]) | _ => fun _ => none
noncomputable def code_107 : Code := (Tryz.f107.body).getD .skip
noncomputable def E_stringslite_Cut (g : C_stringslite_Cut) : Env A := mkE [(141, SS_stringslite_Index g.stringslite_Index)] [] [] [] [] [] [] [] [] []
theorem sm_stringslite_Cut (g : C_stringslite_Cut) : Same (SS_stringslite_Cut (@stringslite_Cut_ g)) (abody (E_stringslite_Cut g) Tryz.f107 code_107 0 [] [.asis, .asis, .asis] g.N) := by intro args; unfold SS_stringslite_Cut; split; exact .inr fun R k => (by kernel_rfl); exact .inl fun R k => rfl
theorem ok_stringslite_Cut [Fuel] : Ok 107 (SS_stringslite_Cut (@stringslite_Cut _)) := okF_of std (.cons ok_stringslite_Index .nil) ⟨rfl, rfl, by kernel_rfl, rfl, rfl, rfl⟩ (sm_stringslite_Cut I_stringslite_Cut) (cuts0 (fun _ => rfl) (by kernel_rfl)) Tryz.func107 (by kernel_rfl) (by kernel_rfl)
abbrev T_strings_Cut : Type 1 := List UInt8 → List UInt8 → {R : Type} → (List UInt8 → List UInt8 → Bool → Option R) → Option R
structure C_strings_Cut where
 N : Nat
 stringslite_Cut : T_stringslite_Cut
def strings_Cut_ (g : C_strings_Cut) (a1 a2 : List UInt8) {R : Type} (k0 : List UInt8 → List UInt8 → Bool → Option R) : Option R :=
 (g.stringslite_Cut a1 a2 (fun r3 r4 r5 => k0 r3 r4 r5))
noncomputable def I_strings_Cut [Fuel] : C_strings_Cut := ⟨NN, @stringslite_Cut _⟩
noncomputable def strings_Cut [Fuel] : T_strings_Cut := @strings_Cut_ I_strings_Cut
def SS_strings_Cut (g : T_strings_Cut) : Spec A := fun args => match args with | [.d (.str a1), .d (.str a2)] => fun k => g a1 a2 (fun z0 z1 z2 => k (.tup [.d (.str z0), .d (.str z1), .d (.bool z2)]) [.undef, .undef]) | _ => fun _ => none
noncomputable def code_70 : Code := (Tryz.f70.body).getD .skip
noncomputable def E_strings_Cut (g : C_strings_Cut) : Env A := mkE [(107, SS_stringslite_Cut g.stringslite_Cut)] [] [] [] [] [] [] [] [] []
theorem sm_strings_Cut (g : C_strings_Cut) : Same (SS_strings_Cut (@strings_Cut_ g)) (abody (E_strings_Cut g) Tryz.f70 code_70 0 [] [.asis, .asis, .asis] g.N) := by intro args; unfold SS_strings_Cut; split; exact .inr fun R k => (by kernel_rfl); exact .inl fun R k => rfl
theorem ok_strings_Cut [Fuel] : Ok 70 (SS_strings_Cut (@strings_Cut _)) := okF_of std (.cons ok_stringslite_Cut .nil) ⟨rfl, rfl, by kernel_rfl, rfl, rfl, rfl⟩ (sm_strings_Cut I_strings_Cut) (cuts0 (fun _ => rfl) (by kernel_rfl)) Tryz.func70 (by kernel_rfl) (by kernel_rfl)
abbrev T_strings_IndexRune : Type 1 := List UInt8 → Int → {R : Type} → (Int → Option R) → Option R
def strings_IndexRune [Fuel] : T_strings_IndexRune := @X_ixr
def SS_strings_IndexRune (g : T_strings_IndexRune) : Spec A := SSX_ixr g
theorem ok_strings_IndexRune [Fuel] : Ok 142 (SS_strings_IndexRune (@strings_IndexRune _)) := ⟨ssx_ixr_sound (ixr_sound (fun s r w h0 h1 => Any.strings_IndexRune_ascii Tryz.lays152 s r w h0 h1)), ssx_ixr_nat, enters_of (fn := Tryz.f142) Tryz.func142 (by kernel_rfl) (by kernel_rfl)⟩
abbrev T_strings_shouldUseASCIISet : Type 1 := Int → {R : Type} → (Bool → Option R) → Option R
def strings_shouldUseASCIISet_ (g : Nat) (a1 : Int) {R : Type} (k0 : Bool → Option R) : Option R :=
 k0 (decide (a1 > 8))
noncomputable def strings_shouldUseASCIISet [Fuel] : T_strings_shouldUseASCIISet := @strings_shouldUseASCIISet_ NN
def SS_strings_shouldUseASCIISet (g : T_strings_shouldUseASCIISet) : Spec A := fun args => match args with | [.d (.int .i64 a1)] => fun k => g a1 (fun z0 => k (.d (.bool z0)) [.undef]) | _ => fun _ => none
noncomputable def code_143 : Code := (Tryz.f143.body).getD .skip
noncomputable def E_strings_shouldUseASCIISet (g : Nat) : Env A := mkE [] [] [] [] [] [] [] [] [] []
theorem sm_strings_shouldUseASCIISet (g : Nat) : Same (SS_strings_shouldUseASCIISet (@strings_shouldUseASCIISet_ g)) (abody (E_strings_shouldUseASCIISet g) Tryz.f143 code_143 0 [] [.asis] g) := by intro args; unfold SS_strings_shouldUseASCIISet; split; exact .inr fun R k => (by kernel_rfl); exact .inl fun R k => rfl
theorem ok_strings_shouldUseASCIISet [Fuel] : Ok 143 (SS_strings_shouldUseASCIISet (@strings_shouldUseASCIISet _)) := okF_of std .nil ⟨rfl, rfl, by kernel_rfl, rfl, rfl, rfl⟩ (sm_strings_shouldUseASCIISet NN) (cuts0 (fun _ => rfl) (by kernel_rfl)) Tryz.func143 (by kernel_rfl) (by kernel_rfl)
abbrev T_strings_makeASCIISet : Type 1 := List UInt8 → {R : Type} → Option R
def strings_makeASCIISet_ (g : Nat) (a1 : List UInt8) {R : Type}  : Option R :=
 none
noncomputable def strings_makeASCIISet [Fuel] : T_strings_makeASCIISet := @strings_makeASCIISet_ NN
def SS_strings_makeASCIISet (g : T_strings_makeASCIISet) : Spec A := fun args => match args with | [.d (.str a1)] => fun k => g a1 | _ => fun _ => none
noncomputable def code_94 : Code := (Tryz.f94.body).getD .skip
noncomputable def E_strings_makeASCIISet (g : Nat) : Env A := mkE [] [] [] [] [] [] [] [] [] []
noncomputable def cb_strings_makeASCIISet_L2 : Code := sub [1, 0, 1, 0, 0] code_94
theorem lf_strings_makeASCIISet_L2 [Fuel] : LoopFine (E_strings_makeASCIISet NN) NN cb_strings_makeASCIISet_L2 := no_loop (by kernel_rfl)
theorem sm_strings_makeASCIISet (g : Nat) : Same (SS_strings_makeASCIISet (@strings_makeASCIISet_ g)) (abody (E_strings_makeASCIISet g) Tryz.f94 code_94 0 [] [.asis, .asis] g) := by intro args; unfold SS_strings_makeASCIISet; split; exact .inr fun R k => (by kernel_rfl); exact .inl fun R k => rfl
theorem ok_strings_makeASCIISet [Fuel] : Ok 94 (SS_strings_makeASCIISet (@strings_makeASCIISet _)) := okF_of std .nil ⟨rfl, rfl, by kernel_rfl, rfl, rfl, rfl⟩ (sm_strings_makeASCIISet NN) (cutsL (fun _ => rfl) (.cons lf_strings_makeASCIISet_L2 .nil) (by kernel_rfl)) Tryz.func94 (by kernel_rfl) (by kernel_rfl)
abbrev T_utf8_RuneStart : Type 1 := Int → {R : Type} → Option R
def utf8_RuneStart_ (g : Nat) (a1 : Int) {R : Type}  : Option R :=
 none
noncomputable def utf8_RuneStart [Fuel] : T_utf8_RuneStart := @utf8_RuneStart_ NN
def SS_utf8_RuneStart (g : T_utf8_RuneStart) : Spec A := fun args => match args with | [.d (.int .u8 a1)] => fun k => g a1 | _ => fun _ => none
noncomputable def code_155 : Code := (Tryz.f155.body).getD .skip
noncomputable def E_utf8_RuneStart (g : Nat) : Env A := mkE [] [] [] [] [] [] [] [] [] []
theorem sm_utf8_RuneStart (g : Nat) : Same (SS_utf8_RuneStart (@utf8_RuneStart_ g)) (abody (E_utf8_RuneStart g) Tryz.f155 code_155 0 [] [.asis] g) := by intro args; unfold SS_utf8_RuneStart; split; exact .inr fun R k => (by kernel_rfl); exact .inl fun R k => rfl
theorem ok_utf8_RuneStart [Fuel] : Ok 155 (SS_utf8_RuneStart (@utf8_RuneStart _)) := okF_of std .nil ⟨rfl, rfl, by kernel_rfl, rfl, rfl, rfl⟩ (sm_utf8_RuneStart NN) (cuts0 (fun _ => rfl) (by kernel_rfl)) Tryz.func155 (by kernel_rfl) (by kernel_rfl)
abbrev T_utf8_decodeRuneInStringSlow : Type 1 := List UInt8 → {R : Type} → (Int → Int → Option R) → Option R
def utf8_decodeRuneInStringSlow_ (g : Nat) (a1 : List UInt8) {R : Type} (k0 : Int → Int → Option R) : Option R :=
 (bif (decide ((a1.length : Int) < 1)) then k0 65533 0 else (at_ a1 0 fun x2 => none))
noncomputable def utf8_decodeRuneInStringSlow [Fuel] : T_utf8_decodeRuneInStringSlow := @utf8_decodeRuneInStringSlow_ NN
def SS_utf8_decodeRuneInStringSlow (g : T_utf8_decodeRuneInStringSlow) : Spec A := fun args => match args with | [.d (.str a1)] => fun k => g a1 (fun z0 z1 => k (.tup [.d (.int .i32 z0), .d (.int .i64 z1)]) [.undef]) | _ => fun _ => none
noncomputable def code_154 : Code := (Tryz.f154.body).getD .skip
noncomputable def E_utf8_decodeRuneInStringSlow (g : Nat) : Env A := mkE [] [] [] [] [] [] [] [] [] []
theorem sm_utf8_decodeRuneInStringSlow (g : Nat) : Same (SS_utf8_decodeRuneInStringSlow (@utf8_decodeRuneInStringSlow_ g)) (abody (E_utf8_decodeRuneInStringSlow g) Tryz.f154 code_154 0 [] [.asis, .asis] g) := by intro args; unfold SS_utf8_decodeRuneInStringSlow; split; exact .inr fun R k => (by kernel_rfl); exact .inl fun R k => rfl
theorem ok_utf8_decodeRuneInStringSlow [Fuel] : Ok 154 (SS_utf8_decodeRuneInStringSlow (@utf8_decodeRuneInStringSlow _)) := okF_of std .nil ⟨rfl, rfl, by kernel_rfl, rfl, rfl, rfl⟩ (sm_utf8_decodeRuneInStringSlow NN) (cuts0 (fun _ => rfl) (by kernel_rfl)) Tryz.func154 (by kernel_rfl) (by kernel_rfl)
abbrev T_utf8_DecodeRuneInString : Type 1 := List UInt8 → {R : Type} → (Int → Int → Option R) → Option R
structure C_utf8_DecodeRuneInString where
 N : Nat
 utf8_decodeRuneInStringSlow : T_utf8_decodeRuneInStringSlow
def utf8_DecodeRuneInString_ (g : C_utf8_DecodeRuneInString) (a1 : List UInt8) {R : Type} (k0 : Int → Int → Option R) : Option R :=
 (bif (!(a1 == [])) then (at_ a1 0 fun x2 => (bif (decide ((x2.toNat : Int) < 128)) then (at_ a1 0 fun x3 => k0 (IntKind.i32.wrap (x3.toNat : Int)) 1) else (g.utf8_decodeRuneInStringSlow a1 (fun r4 r5 => k0 r4 r5)))) else (g.utf8_decodeRuneInStringSlow a1 (fun r6 r7 => k0 r6 r7)))
noncomputable def I_utf8_DecodeRuneInString [Fuel] : C_utf8_DecodeRuneInString := ⟨NN, @utf8_decodeRuneInStringSlow _⟩
noncomputable def utf8_DecodeRuneInString [Fuel] : T_utf8_DecodeRuneInString := @utf8_DecodeRuneInString_ I_utf8_DecodeRuneInString
def SS_utf8_DecodeRuneInString (g : T_utf8_DecodeRuneInString) : Spec A := fun args => match args with | [.d (.str a1)] => fun k => g a1 (fun z0 z1 => k (.tup [.d (.int .i32 z0), .d (.int .i64 z1)]) [.undef]) | _ => fun _ => none
noncomputable def code_126 : Code := (Tryz.f126.body).getD .skip
noncomputable def E_utf8_DecodeRuneInString (g : C_utf8_DecodeRuneInString) : Env A := mkE [(154, SS_utf8_decodeRuneInStringSlow g.utf8_decodeRuneInStringSlow)] [] [] [] [] [] [] [] [] []
theorem sm_utf8_DecodeRuneInString (g : C_utf8_DecodeRuneInString) : Same (SS_utf8_DecodeRuneInString (@utf8_DecodeRuneInString_ g)) (abody (E_utf8_DecodeRuneInString g) Tryz.f126 code_126 0 [] [.asis, .asis] g.N) := by intro args; unfold SS_utf8_DecodeRuneInString; split; exact .inr fun R k => (by kernel_rfl); exact .inl fun R k => rfl
theorem ok_utf8_DecodeRuneInString [Fuel] : Ok 126 (SS_utf8_DecodeRuneInString (@utf8_DecodeRuneInString _)) := okF_of std (.cons ok_utf8_decodeRuneInStringSlow .nil) ⟨rfl, rfl, by kernel_rfl, rfl, rfl, rfl⟩ (sm_utf8_DecodeRuneInString I_utf8_DecodeRuneInString) (cuts0 (fun _ => rfl) (by kernel_rfl)) Tryz.func126 (by kernel_rfl) (by kernel_rfl)
abbrev T_utf8_DecodeLastRuneInString : Type 1 := List UInt8 → {R : Type} → (Int → Int → Option R) → Option R
structure C_utf8_DecodeLastRuneInString where
 N : Nat
 utf8_DecodeRuneInString : T_utf8_DecodeRuneInString
 utf8_RuneStart : T_utf8_RuneStart
def utf8_DecodeLastRuneInString_L10 (g : C_utf8_DecodeLastRuneInString) : Nat → List UInt8 → Int → Int → Int → {R : Type} → (List UInt8 → Int → Int → Option R) → Option R
 | 0, _, _, _, _, _, _ => none
 | n + 1, v3, v4, v5, v6, _, e0 => (bif (decide (v5 ≥ v6)) then (get_ v3 v5 fun x8 => (g.utf8_RuneStart (x8.toNat : Int))) else e0 v3 v4 v5)
def utf8_DecodeLastRuneInString_ (g : C_utf8_DecodeLastRuneInString) (a1 : List UInt8) {R : Type} (k0 : Int → Int → Option R) : Option R :=
 (bif ((a1.length : Int) == 0) then k0 65533 0 else (get_ a1 (w64 ((a1.length : Int) - 1)) fun x2 => (bif (decide ((IntKind.i32.wrap (x2.toNat : Int)) < 128)) then k0 (IntKind.i32.wrap (x2.toNat : Int)) 1 else (utf8_DecodeLastRuneInString_L10 g g.N a1 (a1.length : Int) (w64 ((w64 ((a1.length : Int) - 1)) - 1)) (if 0 > (w64 ((a1.length : Int) - 4)) then 0 else (w64 ((a1.length : Int) - 4))) (fun e9 e10 e11 => (bif (decide (e11 < 0)) then (bif (decide (0 ≤ 0) && (decide (0 ≤ e10) && decide (e10 ≤ (e9.length : Int)))) then (g.utf8_DecodeRuneInString ((e9.take (e10 : Int).toNat).drop (0 : Int).toNat) (fun r12 r13 => (bif ((w64 (0 + r13)) != e10) then k0 65533 1 else k0 r12 r13))) else none) else (bif (decide (0 ≤ e11) && (decide (e11 ≤ e10) && decide (e10 ≤ (e9.length : Int)))) then (g.utf8_DecodeRuneInString ((e9.take (e10 : Int).toNat).drop (e11 : Int).toNat) (fun r14 r15 => (bif ((w64 (e11 + r15)) != e10) then k0 65533 1 else k0 r14 r15))) else none)))))))
noncomputable def I_utf8_DecodeLastRuneInString [Fuel] : C_utf8_DecodeLastRuneInString := ⟨NN, @utf8_DecodeRuneInString _, @utf8_RuneStart _⟩
noncomputable def utf8_DecodeLastRuneInString [Fuel] : T_utf8_DecodeLastRuneInString := @utf8_DecodeLastRuneInString_ I_utf8_DecodeLastRuneInString
def SS_utf8_DecodeLastRuneInString (g : T_utf8_DecodeLastRuneInString) : Spec A := fun args => match args with | [.d (.str a1)] => fun k => g a1 (fun z0 z1 => k (.tup [.d (.int .i32 z0), .d (.int .i64 z1)]) [.undef]) | _ => fun _ => none
def sh_utf8_DecodeLastRuneInString_L10 : SSt := mkSh 51 0 [(0, .str), (4, .int .i64), (5, .int .i64), (6, .int .i64)] []
def LP_utf8_DecodeLastRuneInString_L10 (g : C_utf8_DecodeLastRuneInString) (n : Nat) : LPT A := fun ps => match ps with | [.d (.str p1), .d (.int .i64 p2), .d (.int .i64 p3), .d (.int .i64 p4)] => fun K => utf8_DecodeLastRuneInString_L10 g n p1 p2 p3 p4 (fun z0 z1 z2 => K (.exit 0) (mkSt 51 0 [(0, .d (.str z0)), (4, .d (.int .i64 z1)), (5, .d (.int .i64 z2))] [])) | _ => fun _ => none
noncomputable def code_128 : Code := (Tryz.f128.body).getD .skip
noncomputable def E_utf8_DecodeLastRuneInString (g : C_utf8_DecodeLastRuneInString) : Env A := mkE [(126, SS_utf8_DecodeRuneInString g.utf8_DecodeRuneInString), (155, SS_utf8_RuneStart g.utf8_RuneStart)] [] [(10, ⟨[0, 4, 5, 6], [], [], [], [], []⟩)] [(10, ⟨[0, 4, 5], [], [], [], [], []⟩)] [(10, pieceOf sh_utf8_DecodeLastRuneInString_L10 (LP_utf8_DecodeLastRuneInString_L10 g g.N))] [] [] [] [] []
theorem ct_utf8_DecodeLastRuneInString [Fuel] : NatTab (E_utf8_DecodeLastRuneInString I_utf8_DecodeLastRuneInString).C := ct_of (P := Tryz.prog) (T := T) (.cons ok_utf8_DecodeRuneInString (.cons ok_utf8_RuneStart .nil)) (by kernel_rfl)
noncomputable def cb_utf8_DecodeLastRuneInString_L10 : Code := sub [1, 1, 1, 1, 1, 1, 1, 0, 1, 0, 0] code_128
theorem s_utf8_DecodeLastRuneInString_L10 (g : C_utf8_DecodeLastRuneInString) (n : Nat) : StepOk (E_utf8_DecodeLastRuneInString g) g.N cb_utf8_DecodeLastRuneInString_L10 sh_utf8_DecodeLastRuneInString_L10 (LP_utf8_DecodeLastRuneInString_L10 g) n := by intro ps; unfold LP_utf8_DecodeLastRuneInString_L10; split; exact .inr fun R K => (by kernel_rfl); exact .inl fun R K => rfl
theorem lf_utf8_DecodeLastRuneInString_L10 [Fuel] : LoopFine (E_utf8_DecodeLastRuneInString I_utf8_DecodeLastRuneInString) NN cb_utf8_DecodeLastRuneInString_L10 := fine_loop sh_utf8_DecodeLastRuneInString_L10 (LP_utf8_DecodeLastRuneInString_L10 I_utf8_DecodeLastRuneInString) (by kernel_rfl) ct_utf8_DecodeLastRuneInString (cuts0 (fun _ => rfl) (by kernel_rfl)) (fun ps R K => by unfold LP_utf8_DecodeLastRuneInString_L10; split <;> (try unfold utf8_DecodeLastRuneInString_L10) <;> rfl) (s_utf8_DecodeLastRuneInString_L10 I_utf8_DecodeLastRuneInString)
theorem sm_utf8_DecodeLastRuneInString (g : C_utf8_DecodeLastRuneInString) : Same (SS_utf8_DecodeLastRuneInString (@utf8_DecodeLastRuneInString_ g)) (abody (E_utf8_DecodeLastRuneInString g) Tryz.f128 code_128 0 [] [.asis, .asis] g.N) := by intro args; unfold SS_utf8_DecodeLastRuneInString; split; exact .inr fun R k => (by kernel_rfl); exact .inl fun R k => rfl
theorem ok_utf8_DecodeLastRuneInString [Fuel] : Ok 128 (SS_utf8_DecodeLastRuneInString (@utf8_DecodeLastRuneInString _)) := okF_of std (.cons ok_utf8_DecodeRuneInString (.cons ok_utf8_RuneStart .nil)) ⟨rfl, rfl, by kernel_rfl, rfl, rfl, rfl⟩ (sm_utf8_DecodeLastRuneInString I_utf8_DecodeLastRuneInString) (cutsL (fun _ => rfl) (.cons lf_utf8_DecodeLastRuneInString_L10 .nil) (by kernel_rfl)) Tryz.func128 (by kernel_rfl) (by kernel_rfl)
end Go.Am
