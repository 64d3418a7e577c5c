/- The functions of the program as Lean functions, each shown to be what the code computes, part 9. No condition: lemmas for the claim. -/
import Derived.Test.YtomkgnajoccdbaaGreatDoorF0
import Derived.Test.YtomkgnajoccdbaaGreatDoorFSh
import Derived.Test.YtomkgnajoccdbaaGreatDoorF1
import Derived.Test.YtomkgnajoccdbaaGreatDoorF2
import Derived.Test.YtomkgnajoccdbaaGreatDoorF3
import Derived.Test.YtomkgnajoccdbaaGreatDoorF4
import Derived.Test.YtomkgnajoccdbaaGreatDoorF5
import Derived.Test.YtomkgnajoccdbaaGreatDoorF6
import Derived.Test.YtomkgnajoccdbaaGreatDoorF7
import Derived.Test.YtomkgnajoccdbaaGreatDoorF8
set_option linter.unusedVariables false
set_option maxRecDepth 100000
namespace Go.Am
open Go Go.Proofs
abbrev T_slices_Equal__Pair : Type 1 := List G_Pair → List G_Pair → {R : Type} → (Bool → Option R) → Option R
def slices_Equal__Pair_L4 (g : Nat) : Nat → List G_Pair → List G_Pair → Int → Int → {R : Type} → (Bool → Option R) → Option R → Option R
  | 0, _, _, _, _, _, _, _ => none
  | n + 1, v3, v4, v5, v6, _, e0, e1 => (bif (decide (v6 < v5)) then (get_ v3 v6 fun x9 => (get_ v4 v6 fun x10 => (bif (!(eq_G_Pair x9 x10)) then e0 false else slices_Equal__Pair_L4 g n v3 v4 v5 (w64 (v6 + 1)) e0 e1))) else e1)
def slices_Equal__Pair_ (g : Nat) (a1 a2 : List G_Pair) {R : Type} (k0 : Bool → Option R) : Option R :=
  (bif ((a1.length : Int) != (a2.length : Int)) then k0 false else (slices_Equal__Pair_L4 g g a1 a2 (a1.length : Int) 0 (fun e11 => k0 e11) (k0 true)))
noncomputable def slices_Equal__Pair [Fuel] : T_slices_Equal__Pair := @slices_Equal__Pair_ NN
def p_slices_Equal__Pair (args : List (IV A)) : Bool := match args with | [.d (.sl 77 _), .d (.sl 77 _)] => true | _ => false
def SS_slices_Equal__Pair (g : T_slices_Equal__Pair) : Spec A := fun args => match args with | [.d (.sl 77 a1), .d (.sl 77 a2)] => fun k => g a1 a2 (fun z0 => k (.d (.bool z0)) [.undef, .undef]) | _ => fun _ => none
def sh_slices_Equal__Pair_L4 : SSt := mkSh 26 0 [(0, .sl 77), (1, .sl 77), (12, .int .i64), (13, .int .i64)] []
def LP_slices_Equal__Pair_L4 (g : Nat) (n : Nat) : LPT A := fun ps => match ps with | [.d (.sl 77 p1), .d (.sl 77 p2), .d (.int .i64 p3), .d (.int .i64 p4)] => fun K => slices_Equal__Pair_L4 g n p1 p2 p3 p4 (fun z0 => K .ret (mkSt 26 0 [(4, .d (.bool z0))] [])) (K (.exit 0) (mkSt 26 0 [] [])) | _ => fun _ => none
noncomputable def code_44 : Code := (Tryz.f44.body).getD .skip
noncomputable def E_slices_Equal__Pair (g : Nat) : Env A := mkE [] [] [(4, ⟨[0, 1, 12, 13], [], [], []⟩)] [(4, ⟨[4], [], [], []⟩)] [(4, pieceOf sh_slices_Equal__Pair_L4 (LP_slices_Equal__Pair_L4 g g))] [] [] [] [] []
theorem ct_slices_Equal__Pair [Fuel] : NatTab (E_slices_Equal__Pair NN).C := ct_of (P := Tryz.prog) (T := T) .nil (by kernel_rfl)
noncomputable def cb_slices_Equal__Pair_L4 : Code := sub [1, 1, 0, 1, 0, 0] code_44
theorem s_slices_Equal__Pair_L4 (g : Nat) (n : Nat) : StepOk (E_slices_Equal__Pair g) g cb_slices_Equal__Pair_L4 sh_slices_Equal__Pair_L4 (LP_slices_Equal__Pair_L4 g) n := by intro ps; unfold LP_slices_Equal__Pair_L4; split; exact .inr fun R K => (by kernel_rfl); exact .inl fun R K => rfl
theorem lf_slices_Equal__Pair_L4 [Fuel] : LoopFine (E_slices_Equal__Pair NN) NN cb_slices_Equal__Pair_L4 := fine_loop sh_slices_Equal__Pair_L4 (LP_slices_Equal__Pair_L4 NN) (by kernel_rfl) ct_slices_Equal__Pair (cuts0 (fun _ => rfl) (by kernel_rfl)) (fun ps R K => by unfold LP_slices_Equal__Pair_L4; split <;> (try unfold slices_Equal__Pair_L4) <;> rfl) (s_slices_Equal__Pair_L4 NN)
theorem sm_slices_Equal__Pair (g : Nat) : Same (SS_slices_Equal__Pair (@slices_Equal__Pair_ g)) (abody (E_slices_Equal__Pair g) Tryz.f44 code_44 0 [] [.asis] g) := by intro args; unfold SS_slices_Equal__Pair; split; exact .inr fun R k => (by kernel_rfl); exact .inl fun R k => rfl
theorem ok_slices_Equal__Pair [Fuel] : Ok 44 (SS_slices_Equal__Pair (@slices_Equal__Pair _)) := okF_of std .nil ⟨rfl, rfl, by kernel_rfl, rfl, rfl, rfl⟩ (sm_slices_Equal__Pair NN) (cutsL (fun _ => rfl) (.cons lf_slices_Equal__Pair_L4 .nil) (by kernel_rfl)) Tryz.func44 (by kernel_rfl) (by kernel_rfl)
abbrev T_slices_Equal__Row : Type 1 := List G_Row → List G_Row → {R : Type} → (Bool → Option R) → Option R
def slices_Equal__Row_L4 (g : Nat) : Nat → List G_Row → List G_Row → Int → Int → {R : Type} → (Bool → Option R) → Option R → Option R
  | 0, _, _, _, _, _, _, _ => none
  | n + 1, v3, v4, v5, v6, _, e0, e1 => (bif (decide (v6 < v5)) then (get_ v3 v6 fun x9 => (get_ v4 v6 fun x10 => (bif (!(eq_G_Row x9 x10)) then e0 false else slices_Equal__Row_L4 g n v3 v4 v5 (w64 (v6 + 1)) e0 e1))) else e1)
def slices_Equal__Row_ (g : Nat) (a1 a2 : List G_Row) {R : Type} (k0 : Bool → Option R) : Option R :=
  (bif ((a1.length : Int) != (a2.length : Int)) then k0 false else (slices_Equal__Row_L4 g g a1 a2 (a1.length : Int) 0 (fun e11 => k0 e11) (k0 true)))
noncomputable def slices_Equal__Row [Fuel] : T_slices_Equal__Row := @slices_Equal__Row_ NN
def p_slices_Equal__Row (args : List (IV A)) : Bool := match args with | [.d (.sl 80 _), .d (.sl 80 _)] => true | _ => false
def SS_slices_Equal__Row (g : T_slices_Equal__Row) : Spec A := fun args => match args with | [.d (.sl 80 a1), .d (.sl 80 a2)] => fun k => g a1 a2 (fun z0 => k (.d (.bool z0)) [.undef, .undef]) | _ => fun _ => none
def sh_slices_Equal__Row_L4 : SSt := mkSh 26 0 [(0, .sl 80), (1, .sl 80), (12, .int .i64), (13, .int .i64)] []
def LP_slices_Equal__Row_L4 (g : Nat) (n : Nat) : LPT A := fun ps => match ps with | [.d (.sl 80 p1), .d (.sl 80 p2), .d (.int .i64 p3), .d (.int .i64 p4)] => fun K => slices_Equal__Row_L4 g n p1 p2 p3 p4 (fun z0 => K .ret (mkSt 26 0 [(4, .d (.bool z0))] [])) (K (.exit 0) (mkSt 26 0 [] [])) | _ => fun _ => none
noncomputable def code_45 : Code := (Tryz.f45.body).getD .skip
noncomputable def E_slices_Equal__Row (g : Nat) : Env A := mkE [] [] [(4, ⟨[0, 1, 12, 13], [], [], []⟩)] [(4, ⟨[4], [], [], []⟩)] [(4, pieceOf sh_slices_Equal__Row_L4 (LP_slices_Equal__Row_L4 g g))] [] [] [] [] []
theorem ct_slices_Equal__Row [Fuel] : NatTab (E_slices_Equal__Row NN).C := ct_of (P := Tryz.prog) (T := T) .nil (by kernel_rfl)
noncomputable def cb_slices_Equal__Row_L4 : Code := sub [1, 1, 0, 1, 0, 0] code_45
theorem s_slices_Equal__Row_L4 (g : Nat) (n : Nat) : StepOk (E_slices_Equal__Row g) g cb_slices_Equal__Row_L4 sh_slices_Equal__Row_L4 (LP_slices_Equal__Row_L4 g) n := by intro ps; unfold LP_slices_Equal__Row_L4; split; exact .inr fun R K => (by kernel_rfl); exact .inl fun R K => rfl
theorem lf_slices_Equal__Row_L4 [Fuel] : LoopFine (E_slices_Equal__Row NN) NN cb_slices_Equal__Row_L4 := fine_loop sh_slices_Equal__Row_L4 (LP_slices_Equal__Row_L4 NN) (by kernel_rfl) ct_slices_Equal__Row (cuts0 (fun _ => rfl) (by kernel_rfl)) (fun ps R K => by unfold LP_slices_Equal__Row_L4; split <;> (try unfold slices_Equal__Row_L4) <;> rfl) (s_slices_Equal__Row_L4 NN)
theorem sm_slices_Equal__Row (g : Nat) : Same (SS_slices_Equal__Row (@slices_Equal__Row_ g)) (abody (E_slices_Equal__Row g) Tryz.f45 code_45 0 [] [.asis] g) := by intro args; unfold SS_slices_Equal__Row; split; exact .inr fun R k => (by kernel_rfl); exact .inl fun R k => rfl
theorem ok_slices_Equal__Row [Fuel] : Ok 45 (SS_slices_Equal__Row (@slices_Equal__Row _)) := okF_of std .nil ⟨rfl, rfl, by kernel_rfl, rfl, rfl, rfl⟩ (sm_slices_Equal__Row NN) (cutsL (fun _ => rfl) (.cons lf_slices_Equal__Row_L4 .nil) (by kernel_rfl)) Tryz.func45 (by kernel_rfl) (by kernel_rfl)
abbrev T_band_May_1 : Type 1 := G_Row → G_Row → {R : Type} → (Bool → G_Row → Option R) → Option R
def band_May_1_ (g : Nat) (a1 a2 : G_Row) {R : Type} (k0 : Bool → G_Row → Option R) : Option R :=
  (bif (decide (a1.f_From ≤ a2.f_From)) then k0 (decide (a2.f_To ≤ a1.f_To)) a2 else k0 false a2)
noncomputable def band_May_1 [Fuel] : T_band_May_1 := @band_May_1_ NN
def SS_band_May_1 (g : T_band_May_1) : Spec A := fun args => match args with | [.agg [.d (.int .i64 a1), .d (.int .i64 a2)], .box [.d (.int .i64 a3), .d (.int .i64 a4)]] => fun k => g ⟨a1, a2⟩ ⟨a3, a4⟩ (fun z0 z1 => k (.d (.bool z0)) [.undef, .box [.d (.int .i64 z1.f_From), .d (.int .i64 z1.f_To)]]) | _ => fun _ => none
noncomputable def code_138 : Code := (Tryz.f138.body).getD .skip
noncomputable def E_band_May_1 (g : Nat) : Env A := mkE [] [(2, [1])] [] [] [] [] [] [] [] [1]
theorem sm_band_May_1 (g : Nat) : Same (SS_band_May_1 (@band_May_1_ g)) (abody (E_band_May_1 g) Tryz.f138 code_138 2 [0] [.asis] g) := by intro args; unfold SS_band_May_1; split; exact .inr fun R k => (by kernel_rfl); exact .inl fun R k => rfl
theorem ok_band_May_1 [Fuel] : Ok 138 (SS_band_May_1 (@band_May_1 _)) := okF_of std .nil ⟨rfl, rfl, by kernel_rfl, rfl, rfl, rfl⟩ (sm_band_May_1 NN) (cuts0 (fun _ => rfl) (by kernel_rfl)) Tryz.func138 (by kernel_rfl) (by kernel_rfl)
abbrev T_slices_IndexFunc__Row_band_May_1 : Type 1 := List G_Row → G_Row → {R : Type} → (Int → G_Row → Option R) → Option R
structure C_slices_IndexFunc__Row_band_May_1 where
  N : Nat
  band_May_1 : T_band_May_1
def slices_IndexFunc__Row_band_May_1_L2 (g : C_slices_IndexFunc__Row_band_May_1) : Nat → List G_Row → Int → Int → G_Row → {R : Type} → (Int → G_Row → Option R) → (G_Row → Option R) → Option R
  | 0, _, _, _, _, _, _, _ => none
  | n + 1, v3, v4, v5, v6, _, e0, e1 => (bif (decide (v5 < v4)) then (get_ v3 v5 fun x10 => (g.band_May_1 x10 v6 (fun r11 r12 => (bif r11 then e0 v5 r12 else slices_IndexFunc__Row_band_May_1_L2 g n v3 v4 (w64 (v5 + 1)) r12 e0 e1)))) else e1 v6)
def slices_IndexFunc__Row_band_May_1_ (g : C_slices_IndexFunc__Row_band_May_1) (a1 : List G_Row) (a2 : G_Row) {R : Type} (k0 : Int → G_Row → Option R) : Option R :=
  (slices_IndexFunc__Row_band_May_1_L2 g g.N a1 (a1.length : Int) 0 a2 (fun e13 e14 => k0 e13 e14) (fun e15 => k0 (-1) e15))
noncomputable def I_slices_IndexFunc__Row_band_May_1 [Fuel] : C_slices_IndexFunc__Row_band_May_1 := ⟨NN, @band_May_1 _⟩
noncomputable def slices_IndexFunc__Row_band_May_1 [Fuel] : T_slices_IndexFunc__Row_band_May_1 := @slices_IndexFunc__Row_band_May_1_ I_slices_IndexFunc__Row_band_May_1
def SS_slices_IndexFunc__Row_band_May_1 (g : T_slices_IndexFunc__Row_band_May_1) : Spec A := fun args => match args with | [.d (.sl 80 a1), .fn 138 [.box [.d (.int .i64 a2), .d (.int .i64 a3)]]] => fun k => g a1 ⟨a2, a3⟩ (fun z0 z1 => k (.d (.int .i64 z0)) [.undef, .fn 138 [.box [.d (.int .i64 z1.f_From), .d (.int .i64 z1.f_To)]]]) | _ => fun _ => none
def sh_slices_IndexFunc__Row_band_May_1_L2 : SSt := mkSh 19 1 [(0, .sl 80), (1, .fn 138 [.ptr 0 0]), (7, .int .i64), (8, .int .i64)] [(0, .box [.int .i64, .int .i64])]
def LP_slices_IndexFunc__Row_band_May_1_L2 (g : C_slices_IndexFunc__Row_band_May_1) (n : Nat) : LPT A := fun ps => match ps with | [.d (.sl 80 p1), .d (.int .i64 p2), .d (.int .i64 p3), .d (.int .i64 p4), .d (.int .i64 p5)] => fun K => slices_IndexFunc__Row_band_May_1_L2 g n p1 p2 p3 ⟨p4, p5⟩ (fun z0 z1 => K .ret (mkSt 19 1 [(1, .fn 138 [.ptr 0 0]), (4, .d (.int .i64 z0))] [(0, some (.box [.d (.int .i64 z1.f_From), .d (.int .i64 z1.f_To)]))])) (fun z0 => K (.exit 0) (mkSt 19 1 [(1, .fn 138 [.ptr 0 0])] [(0, some (.box [.d (.int .i64 z0.f_From), .d (.int .i64 z0.f_To)]))])) | _ => fun _ => none
noncomputable def E_slices_IndexFunc__Row_band_May_1 (g : C_slices_IndexFunc__Row_band_May_1) : Env A := mkE [(138, SS_band_May_1 g.band_May_1)] [] [(2, ⟨[0, 1, 7, 8], [], [0], []⟩)] [(2, ⟨[1, 4], [], [0], []⟩)] [(2, pieceOf sh_slices_IndexFunc__Row_band_May_1_L2 (LP_slices_IndexFunc__Row_band_May_1_L2 g g.N))] [] [] [] [] [1]
theorem ct_slices_IndexFunc__Row_band_May_1 [Fuel] : NatTab (E_slices_IndexFunc__Row_band_May_1 I_slices_IndexFunc__Row_band_May_1).C := ct_of (P := Tryz.prog) (T := T) (.cons ok_band_May_1 .nil) (by kernel_rfl)
noncomputable def cb_slices_IndexFunc__Row_band_May_1_L2 : Code := sub [1, 0, 1, 0, 0] code_185
theorem s_slices_IndexFunc__Row_band_May_1_L2 (g : C_slices_IndexFunc__Row_band_May_1) (n : Nat) : StepOk (E_slices_IndexFunc__Row_band_May_1 g) g.N cb_slices_IndexFunc__Row_band_May_1_L2 sh_slices_IndexFunc__Row_band_May_1_L2 (LP_slices_IndexFunc__Row_band_May_1_L2 g) n := by intro ps; unfold LP_slices_IndexFunc__Row_band_May_1_L2; split; exact .inr fun R K => (by kernel_rfl); exact .inl fun R K => rfl
theorem lf_slices_IndexFunc__Row_band_May_1_L2 [Fuel] : LoopFine (E_slices_IndexFunc__Row_band_May_1 I_slices_IndexFunc__Row_band_May_1) NN cb_slices_IndexFunc__Row_band_May_1_L2 := fine_loop sh_slices_IndexFunc__Row_band_May_1_L2 (LP_slices_IndexFunc__Row_band_May_1_L2 I_slices_IndexFunc__Row_band_May_1) (by kernel_rfl) ct_slices_IndexFunc__Row_band_May_1 (cuts0 (fun _ => rfl) (by kernel_rfl)) (fun ps R K => by unfold LP_slices_IndexFunc__Row_band_May_1_L2; split <;> (try unfold slices_IndexFunc__Row_band_May_1_L2) <;> rfl) (s_slices_IndexFunc__Row_band_May_1_L2 I_slices_IndexFunc__Row_band_May_1)
theorem sm_slices_IndexFunc__Row_band_May_1 (g : C_slices_IndexFunc__Row_band_May_1) : Same (SS_slices_IndexFunc__Row_band_May_1 (@slices_IndexFunc__Row_band_May_1_ g)) (abody (E_slices_IndexFunc__Row_band_May_1 g) Tryz.f185 code_185 1 [0] [.asis] g.N) := by intro args; unfold SS_slices_IndexFunc__Row_band_May_1; split; exact .inr fun R k => (by kernel_rfl); exact .inl fun R k => rfl
theorem ok_slices_IndexFunc__Row_band_May_1 [Fuel] : Ok 185 (SS_slices_IndexFunc__Row_band_May_1 (@slices_IndexFunc__Row_band_May_1 _)) := okF_of std (.cons ok_band_May_1 .nil) ⟨rfl, rfl, by kernel_rfl, rfl, rfl, rfl⟩ (sm_slices_IndexFunc__Row_band_May_1 I_slices_IndexFunc__Row_band_May_1) (cutsL (fun _ => rfl) (.cons lf_slices_IndexFunc__Row_band_May_1_L2 .nil) (by kernel_rfl)) Tryz.func185 (by kernel_rfl) (by kernel_rfl)
abbrev T_slices_ContainsFunc__Row_band_May_1 : Type 1 := List G_Row → G_Row → {R : Type} → (Bool → G_Row → Option R) → Option R
structure C_slices_ContainsFunc__Row_band_May_1 where
  N : Nat
  slices_IndexFunc__Row_band_May_1 : T_slices_IndexFunc__Row_band_May_1
def slices_ContainsFunc__Row_band_May_1_ (g : C_slices_ContainsFunc__Row_band_May_1) (a1 : List G_Row) (a2 : G_Row) {R : Type} (k0 : Bool → G_Row → Option R) : Option R :=
  (g.slices_IndexFunc__Row_band_May_1 a1 a2 (fun r3 r4 => k0 (decide (r3 ≥ 0)) r4))
noncomputable def I_slices_ContainsFunc__Row_band_May_1 [Fuel] : C_slices_ContainsFunc__Row_band_May_1 := ⟨NN, @slices_IndexFunc__Row_band_May_1 _⟩
noncomputable def slices_ContainsFunc__Row_band_May_1 [Fuel] : T_slices_ContainsFunc__Row_band_May_1 := @slices_ContainsFunc__Row_band_May_1_ I_slices_ContainsFunc__Row_band_May_1
def SS_slices_ContainsFunc__Row_band_May_1 (g : T_slices_ContainsFunc__Row_band_May_1) : Spec A := fun args => match args with | [.d (.sl 80 a1), .fn 138 [.box [.d (.int .i64 a2), .d (.int .i64 a3)]]] => fun k => g a1 ⟨a2, a3⟩ (fun z0 z1 => k (.d (.bool z0)) [.undef, .fn 138 [.box [.d (.int .i64 z1.f_From), .d (.int .i64 z1.f_To)]]]) | _ => fun _ => none
noncomputable def E_slices_ContainsFunc__Row_band_May_1 (g : C_slices_ContainsFunc__Row_band_May_1) : Env A := mkE [(185, SS_slices_IndexFunc__Row_band_May_1 g.slices_IndexFunc__Row_band_May_1)] [] [] [] [] [] [] [] [(185, 0)] [1]
theorem sm_slices_ContainsFunc__Row_band_May_1 (g : C_slices_ContainsFunc__Row_band_May_1) : Same (SS_slices_ContainsFunc__Row_band_May_1 (@slices_ContainsFunc__Row_band_May_1_ g)) (abody (E_slices_ContainsFunc__Row_band_May_1 g) Tryz.f135 code_135 1 [0] [.asis] g.N) := by intro args; unfold SS_slices_ContainsFunc__Row_band_May_1; split; exact .inr fun R k => (by kernel_rfl); exact .inl fun R k => rfl
theorem ok_slices_ContainsFunc__Row_band_May_1 [Fuel] : Ok 135 (SS_slices_ContainsFunc__Row_band_May_1 (@slices_ContainsFunc__Row_band_May_1 _)) := okF_of std (.cons ok_slices_IndexFunc__Row_band_May_1 .nil) ⟨rfl, rfl, by kernel_rfl, rfl, rfl, rfl⟩ (sm_slices_ContainsFunc__Row_band_May_1 I_slices_ContainsFunc__Row_band_May_1) (cuts0 (fun _ => rfl) (by kernel_rfl)) Tryz.func135 (by kernel_rfl) (by kernel_rfl)
abbrev T_band_May : Type 1 := List G_Segment → List UInt8 → Int → Int → Int → Int → {R : Type} → (Bool → Int → Option R) → Option R
structure C_band_May where
  N : Nat
  kit_IsKey : T_kit_IsKey
  kit_Outside : T_kit_Outside
  band_used : T_band_used
  band_CheckSegments : T_band_CheckSegments
  kit_IsMode : T_kit_IsMode
  kit_IsMoment : T_kit_IsMoment
  band_permitted : T_band_permitted
  slices_ContainsFunc__Row_band_May_1 : T_slices_ContainsFunc__Row_band_May_1
def band_May_ (g : C_band_May) (a1 : List G_Segment) (a2 : List UInt8) (a3 a4 a5 a6 : Int) {R : Type} (k0 : Bool → Int → Option R) : Option R :=
  (g.band_CheckSegments a1 (fun r7 => (bif (r7 != 0) then k0 false r7 else (g.kit_IsKey a2 (fun r8 => (bif (!r8) then k0 false 5 else (g.kit_Outside a3 0 30000000000 (fun r9 => (bif r9 then k0 false 1 else (g.kit_Outside a4 1 100000 (fun r10 => (bif r10 then k0 false 1 else (g.kit_IsMode a5 (fun r11 => (bif (!r11) then k0 false 4 else (g.kit_IsMoment a6 (fun r12 => (bif (!r12) then k0 false 1 else (g.band_used a3 a4 (fun r13 => (g.band_permitted a1 a2 a5 a6 (fun r14 => (g.slices_ContainsFunc__Row_band_May_1 r14 r13 (fun r15 r16 => k0 r15 0))))))))))))))))))))))))
noncomputable def I_band_May [Fuel] : C_band_May := ⟨NN, @kit_IsKey _, @kit_Outside _, @band_used _, @band_CheckSegments _, @kit_IsMode _, @kit_IsMoment _, @band_permitted _, @slices_ContainsFunc__Row_band_May_1 _⟩
noncomputable def band_May [Fuel] : T_band_May := @band_May_ I_band_May
def SS_band_May (g : T_band_May) : Spec A := fun args => match args with | [.d (.sl 115 a1), .d (.str a2), .d (.int .i64 a3), .d (.int .i64 a4), .d (.int .i64 a5), .d (.int .i64 a6)] => fun k => g a1 a2 a3 a4 a5 a6 (fun z0 z1 => k (.tup [.d (.bool z0), .d (.int .i64 z1)]) [.undef, .undef, .undef, .undef, .undef, .undef]) | _ => fun _ => none
noncomputable def code_100 : Code := (Tryz.f100.body).getD .skip
noncomputable def E_band_May (g : C_band_May) : Env A := mkE [(53, SS_kit_IsKey g.kit_IsKey), (57, SS_kit_Outside g.kit_Outside), (86, SS_band_used g.band_used), (126, SS_band_CheckSegments g.band_CheckSegments), (127, SS_kit_IsMode g.kit_IsMode), (128, SS_kit_IsMoment g.kit_IsMoment), (129, SS_band_permitted g.band_permitted), (135, SS_slices_ContainsFunc__Row_band_May_1 g.slices_ContainsFunc__Row_band_May_1)] [(15, [0]), (47, [1])] [] [] [] [] [] [] [] []
theorem sm_band_May (g : C_band_May) : Same (SS_band_May (@band_May_ g)) (abody (E_band_May g) Tryz.f100 code_100 2 [] [.asis, .asis] g.N) := by intro args; unfold SS_band_May; split; exact .inr fun R k => (by kernel_rfl); exact .inl fun R k => rfl
theorem ok_band_May [Fuel] : Ok 100 (SS_band_May (@band_May _)) := okF_of std (.cons ok_kit_IsKey (.cons ok_kit_Outside (.cons ok_band_used (.cons ok_band_CheckSegments (.cons ok_kit_IsMode (.cons ok_kit_IsMoment (.cons ok_band_permitted (.cons ok_slices_ContainsFunc__Row_band_May_1 .nil)))))))) ⟨rfl, rfl, by kernel_rfl, rfl, rfl, rfl⟩ (sm_band_May I_band_May) (cuts0 (fun _ => rfl) (by kernel_rfl)) Tryz.func100 (by kernel_rfl) (by kernel_rfl)
abbrev T_law_banded : Type 1 := {R : Type} → (Bool → Option R) → Option R
structure C_law_banded where
  N : Nat
  band_May : T_band_May
def law_banded_ (g : C_law_banded)  {R : Type} (k0 : Bool → Option R) : Option R :=
  (g.band_May [(⟨[99], 5, 8, [1], (⟨0, 9⟩ : G_Window)⟩ : G_Segment)] [99] 6 3 1 0 (fun r1 r2 => (bif (r2 == 0) then k0 r1 else k0 false)))
noncomputable def I_law_banded [Fuel] : C_law_banded := ⟨NN, @band_May _⟩
noncomputable def law_banded [Fuel] : T_law_banded := @law_banded_ I_law_banded
def SS_law_banded (g : T_law_banded) : Spec A := fun args => match args with | [] => fun k => g (fun z0 => k (.d (.bool z0)) []) | _ => fun _ => none
noncomputable def code_46 : Code := (Tryz.f46.body).getD .skip
noncomputable def E_law_banded (g : C_law_banded) : Env A := mkE [(100, SS_band_May g.band_May)] [(4, [0]), (7, [1])] [] [] [] [] [] [] [] []
theorem sm_law_banded (g : C_law_banded) : Same (SS_law_banded (@law_banded_ g)) (abody (E_law_banded g) Tryz.f46 code_46 2 [] [.asis] g.N) := by intro args; unfold SS_law_banded; split; exact .inr fun R k => (by kernel_rfl); exact .inl fun R k => rfl
theorem ok_law_banded [Fuel] : Ok 46 (SS_law_banded (@law_banded _)) := okF_of std (.cons ok_band_May .nil) ⟨rfl, rfl, by kernel_rfl, rfl, rfl, rfl⟩ (sm_law_banded I_law_banded) (cuts0 (fun _ => rfl) (by kernel_rfl)) Tryz.func46 (by kernel_rfl) (by kernel_rfl)
abbrev T_Q_NearestTo_n0 : Type 1 := Int → {R : Type} → (Int → Bool → Option R) → Option R
def Q_NearestTo_n0_L3 (g : Nat) : Nat → Int → Int → Bool → Int → Int → {R : Type} → (Int → Bool → Option R) → Option R
  | 0, _, _, _, _, _, _, _ => none
  | n + 1, v2, v3, v4, v5, v6, _, e0 => (bif (decide (v6 < v5)) then none else e0 v3 v4)
def Q_NearestTo_n0_ (g : Nat) (a1 : Int) {R : Type} (k0 : Int → Bool → Option R) : Option R :=
  (Q_NearestTo_n0_L3 g g a1 0 false 0 0 (fun e7 e8 => k0 e7 e8))
noncomputable def Q_NearestTo_n0 [Fuel] : T_Q_NearestTo_n0 := @Q_NearestTo_n0_ NN
def SS_Q_NearestTo_n0 (g : T_Q_NearestTo_n0) : Spec A := fun args => match args with | [.d .nsl, .d (.int .i64 a1)] => fun k => g a1 (fun z0 z1 => k (.tup [.d (.int .i64 z0), .d (.bool z1)]) [.undef, .undef]) | _ => fun _ => none
def sh_Q_NearestTo_n0_L3 : SSt := mkSh 40 0 [(1, .int .i64), (6, .int .i64), (7, .bool), (11, .nsl), (12, .int .i64), (13, .int .i64)] []
def LP_Q_NearestTo_n0_L3 (g : Nat) (n : Nat) : LPT A := fun ps => match ps with | [.d (.int .i64 p1), .d (.int .i64 p2), .d (.bool p3), .d (.int .i64 p4), .d (.int .i64 p5)] => fun K => Q_NearestTo_n0_L3 g n p1 p2 p3 p4 p5 (fun z0 z1 => K (.exit 0) (mkSt 40 0 [(6, .d (.int .i64 z0)), (7, .d (.bool z1))] [])) | _ => fun _ => none
noncomputable def E_Q_NearestTo_n0 (g : Nat) : Env A := mkE [] [] [(3, ⟨[1, 6, 7, 11, 12, 13], [], [], []⟩)] [(3, ⟨[6, 7], [], [], []⟩)] [(3, pieceOf sh_Q_NearestTo_n0_L3 (LP_Q_NearestTo_n0_L3 g g))] [] [] [] [] []
theorem ct_Q_NearestTo_n0 [Fuel] : NatTab (E_Q_NearestTo_n0 NN).C := ct_of (P := Tryz.prog) (T := T) .nil (by kernel_rfl)
noncomputable def cb_Q_NearestTo_n0_L3 : Code := sub [1, 1, 0, 1, 0, 0] code_42
theorem s_Q_NearestTo_n0_L3 (g : Nat) (n : Nat) : StepOk (E_Q_NearestTo_n0 g) g cb_Q_NearestTo_n0_L3 sh_Q_NearestTo_n0_L3 (LP_Q_NearestTo_n0_L3 g) n := by intro ps; unfold LP_Q_NearestTo_n0_L3; split; exact .inr fun R K => (by kernel_rfl); exact .inl fun R K => rfl
theorem lf_Q_NearestTo_n0_L3 [Fuel] : LoopFine (E_Q_NearestTo_n0 NN) NN cb_Q_NearestTo_n0_L3 := fine_loop sh_Q_NearestTo_n0_L3 (LP_Q_NearestTo_n0_L3 NN) (by kernel_rfl) ct_Q_NearestTo_n0 (cuts0 (fun _ => rfl) (by kernel_rfl)) (fun ps R K => by unfold LP_Q_NearestTo_n0_L3; split <;> (try unfold Q_NearestTo_n0_L3) <;> rfl) (s_Q_NearestTo_n0_L3 NN)
theorem sm_Q_NearestTo_n0 (g : Nat) : Same (SS_Q_NearestTo_n0 (@Q_NearestTo_n0_ g)) (abody (E_Q_NearestTo_n0 g) Tryz.f42 code_42 0 [] [.asis, .asis] g) := by intro args; unfold SS_Q_NearestTo_n0; split; exact .inr fun R k => (by kernel_rfl); exact .inl fun R k => rfl
theorem ok_Q_NearestTo_n0 [Fuel] : Ok 42 (SS_Q_NearestTo_n0 (@Q_NearestTo_n0 _)) := okF_of std .nil ⟨rfl, rfl, by kernel_rfl, rfl, rfl, rfl⟩ (sm_Q_NearestTo_n0 NN) (cutsL (fun _ => rfl) (.cons lf_Q_NearestTo_n0_L3 .nil) (by kernel_rfl)) Tryz.func42 (by kernel_rfl) (by kernel_rfl)
abbrev T_slices_Equal__Row_n1 : Type 1 := List G_Row → {R : Type} → (Bool → Option R) → Option R
def slices_Equal__Row_n1_L4 (g : Nat) : Nat → List G_Row → Int → Int → {R : Type} → Option R → Option R
  | 0, _, _, _, _, _ => none
  | n + 1, v2, v3, v4, _, e0 => (bif (decide (v4 < v3)) then (get_ v2 v4 fun x6 => none) else e0)
def slices_Equal__Row_n1_ (g : Nat) (a1 : List G_Row) {R : Type} (k0 : Bool → Option R) : Option R :=
  (bif ((a1.length : Int) != 0) then k0 false else (slices_Equal__Row_n1_L4 g g a1 (a1.length : Int) 0 (k0 true)))
noncomputable def slices_Equal__Row_n1 [Fuel] : T_slices_Equal__Row_n1 := @slices_Equal__Row_n1_ NN
def SS_slices_Equal__Row_n1 (g : T_slices_Equal__Row_n1) : Spec A := fun args => match args with | [.d (.sl 80 a1), .d .nsl] => fun k => g a1 (fun z0 => k (.d (.bool z0)) [.undef, .undef]) | _ => fun _ => none
def sh_slices_Equal__Row_n1_L4 : SSt := mkSh 26 0 [(0, .sl 80), (1, .nsl), (12, .int .i64), (13, .int .i64)] []
def LP_slices_Equal__Row_n1_L4 (g : Nat) (n : Nat) : LPT A := fun ps => match ps with | [.d (.sl 80 p1), .d (.int .i64 p2), .d (.int .i64 p3)] => fun K => slices_Equal__Row_n1_L4 g n p1 p2 p3 (K (.exit 0) (mkSt 26 0 [] [])) | _ => fun _ => none
noncomputable def E_slices_Equal__Row_n1 (g : Nat) : Env A := mkE [] [] [(4, ⟨[0, 1, 12, 13], [], [], []⟩)] [(4, ⟨[], [], [], []⟩)] [(4, pieceOf sh_slices_Equal__Row_n1_L4 (LP_slices_Equal__Row_n1_L4 g g))] [] [] [] [] []
theorem ct_slices_Equal__Row_n1 [Fuel] : NatTab (E_slices_Equal__Row_n1 NN).C := ct_of (P := Tryz.prog) (T := T) .nil (by kernel_rfl)
noncomputable def cb_slices_Equal__Row_n1_L4 : Code := sub [1, 1, 0, 1, 0, 0] code_45
theorem s_slices_Equal__Row_n1_L4 (g : Nat) (n : Nat) : StepOk (E_slices_Equal__Row_n1 g) g cb_slices_Equal__Row_n1_L4 sh_slices_Equal__Row_n1_L4 (LP_slices_Equal__Row_n1_L4 g) n := by intro ps; unfold LP_slices_Equal__Row_n1_L4; split; exact .inr fun R K => (by kernel_rfl); exact .inl fun R K => rfl
theorem lf_slices_Equal__Row_n1_L4 [Fuel] : LoopFine (E_slices_Equal__Row_n1 NN) NN cb_slices_Equal__Row_n1_L4 := fine_loop sh_slices_Equal__Row_n1_L4 (LP_slices_Equal__Row_n1_L4 NN) (by kernel_rfl) ct_slices_Equal__Row_n1 (cuts0 (fun _ => rfl) (by kernel_rfl)) (fun ps R K => by unfold LP_slices_Equal__Row_n1_L4; split <;> (try unfold slices_Equal__Row_n1_L4) <;> rfl) (s_slices_Equal__Row_n1_L4 NN)
theorem sm_slices_Equal__Row_n1 (g : Nat) : Same (SS_slices_Equal__Row_n1 (@slices_Equal__Row_n1_ g)) (abody (E_slices_Equal__Row_n1 g) Tryz.f45 code_45 0 [] [.asis] g) := by intro args; unfold SS_slices_Equal__Row_n1; split; exact .inr fun R k => (by kernel_rfl); exact .inl fun R k => rfl
theorem ok_slices_Equal__Row_n1 [Fuel] : Ok 45 (SS_slices_Equal__Row_n1 (@slices_Equal__Row_n1 _)) := okF_of std .nil ⟨rfl, rfl, by kernel_rfl, rfl, rfl, rfl⟩ (sm_slices_Equal__Row_n1 NN) (cutsL (fun _ => rfl) (.cons lf_slices_Equal__Row_n1_L4 .nil) (by kernel_rfl)) Tryz.func45 (by kernel_rfl) (by kernel_rfl)
abbrev T_slices_Equal__Pair_n1 : Type 1 := List G_Pair → {R : Type} → (Bool → Option R) → Option R
def slices_Equal__Pair_n1_L4 (g : Nat) : Nat → List G_Pair → Int → Int → {R : Type} → Option R → Option R
  | 0, _, _, _, _, _ => none
  | n + 1, v2, v3, v4, _, e0 => (bif (decide (v4 < v3)) then (get_ v2 v4 fun x6 => none) else e0)
def slices_Equal__Pair_n1_ (g : Nat) (a1 : List G_Pair) {R : Type} (k0 : Bool → Option R) : Option R :=
  (bif ((a1.length : Int) != 0) then k0 false else (slices_Equal__Pair_n1_L4 g g a1 (a1.length : Int) 0 (k0 true)))
noncomputable def slices_Equal__Pair_n1 [Fuel] : T_slices_Equal__Pair_n1 := @slices_Equal__Pair_n1_ NN
def SS_slices_Equal__Pair_n1 (g : T_slices_Equal__Pair_n1) : Spec A := fun args => match args with | [.d (.sl 77 a1), .d .nsl] => fun k => g a1 (fun z0 => k (.d (.bool z0)) [.undef, .undef]) | _ => fun _ => none
def sh_slices_Equal__Pair_n1_L4 : SSt := mkSh 26 0 [(0, .sl 77), (1, .nsl), (12, .int .i64), (13, .int .i64)] []
def LP_slices_Equal__Pair_n1_L4 (g : Nat) (n : Nat) : LPT A := fun ps => match ps with | [.d (.sl 77 p1), .d (.int .i64 p2), .d (.int .i64 p3)] => fun K => slices_Equal__Pair_n1_L4 g n p1 p2 p3 (K (.exit 0) (mkSt 26 0 [] [])) | _ => fun _ => none
noncomputable def E_slices_Equal__Pair_n1 (g : Nat) : Env A := mkE [] [] [(4, ⟨[0, 1, 12, 13], [], [], []⟩)] [(4, ⟨[], [], [], []⟩)] [(4, pieceOf sh_slices_Equal__Pair_n1_L4 (LP_slices_Equal__Pair_n1_L4 g g))] [] [] [] [] []
theorem ct_slices_Equal__Pair_n1 [Fuel] : NatTab (E_slices_Equal__Pair_n1 NN).C := ct_of (P := Tryz.prog) (T := T) .nil (by kernel_rfl)
noncomputable def cb_slices_Equal__Pair_n1_L4 : Code := sub [1, 1, 0, 1, 0, 0] code_44
theorem s_slices_Equal__Pair_n1_L4 (g : Nat) (n : Nat) : StepOk (E_slices_Equal__Pair_n1 g) g cb_slices_Equal__Pair_n1_L4 sh_slices_Equal__Pair_n1_L4 (LP_slices_Equal__Pair_n1_L4 g) n := by intro ps; unfold LP_slices_Equal__Pair_n1_L4; split; exact .inr fun R K => (by kernel_rfl); exact .inl fun R K => rfl
theorem lf_slices_Equal__Pair_n1_L4 [Fuel] : LoopFine (E_slices_Equal__Pair_n1 NN) NN cb_slices_Equal__Pair_n1_L4 := fine_loop sh_slices_Equal__Pair_n1_L4 (LP_slices_Equal__Pair_n1_L4 NN) (by kernel_rfl) ct_slices_Equal__Pair_n1 (cuts0 (fun _ => rfl) (by kernel_rfl)) (fun ps R K => by unfold LP_slices_Equal__Pair_n1_L4; split <;> (try unfold slices_Equal__Pair_n1_L4) <;> rfl) (s_slices_Equal__Pair_n1_L4 NN)
theorem sm_slices_Equal__Pair_n1 (g : Nat) : Same (SS_slices_Equal__Pair_n1 (@slices_Equal__Pair_n1_ g)) (abody (E_slices_Equal__Pair_n1 g) Tryz.f44 code_44 0 [] [.asis] g) := by intro args; unfold SS_slices_Equal__Pair_n1; split; exact .inr fun R k => (by kernel_rfl); exact .inl fun R k => rfl
theorem ok_slices_Equal__Pair_n1 [Fuel] : Ok 44 (SS_slices_Equal__Pair_n1 (@slices_Equal__Pair_n1 _)) := okF_of std .nil ⟨rfl, rfl, by kernel_rfl, rfl, rfl, rfl⟩ (sm_slices_Equal__Pair_n1 NN) (cutsL (fun _ => rfl) (.cons lf_slices_Equal__Pair_n1_L4 .nil) (by kernel_rfl)) Tryz.func44 (by kernel_rfl) (by kernel_rfl)
abbrev T_law_FrequenciesFree : Type 1 := List Int → {R : Type} → (Bool → Option R) → Option R
structure C_law_FrequenciesFree where
  N : Nat
  Stream_Some : T_Stream_Some
  Stream_Pick : T_Stream_Pick
  law_errs : T_law_errs
  law_nameFault : T_law_nameFault
  Stream_Segments : T_Stream_Segments
  Stream_Busies : T_Stream_Busies
  Stream_Wide : T_Stream_Wide
  Stream_Near : T_Stream_Near
  band_TooNear : T_band_TooNear
  band_Free : T_band_Free
  band_Nearest : T_band_Nearest
  band_Fewest : T_band_Fewest
  Q_BusyFault : T_Q_BusyFault
  Q_SegmentsFault : T_Q_SegmentsFault
  law_modeFault : T_law_modeFault
  law_widthFault : T_law_widthFault
  Q_MomentFault : T_Q_MomentFault
  law_hertzFault : T_law_hertzFault
  Q_NearPairs : T_Q_NearPairs
  Q_FewestOf : T_Q_FewestOf
  Q_FreeRows : T_Q_FreeRows
  Q_NearestTo : T_Q_NearestTo
  Q_NearestTo_n0 : T_Q_NearestTo_n0
  band_CheckBusy : T_band_CheckBusy
  slices_Equal__Pair : T_slices_Equal__Pair
  slices_Equal__Pair_n1 : T_slices_Equal__Pair_n1
  slices_Equal__Row : T_slices_Equal__Row
  slices_Equal__Row_n1 : T_slices_Equal__Row_n1
  law_banded : T_law_banded
def law_FrequenciesFree_J20 (g : C_law_FrequenciesFree) (v226 v227 v228 : Int) (v229 : Bool) (v230 v231 v232 v233 v234 v235 v236 v237 : Int) (v238 : Bool) (v239 : List G_Busy) (v240 : List G_Pair) (v241 : List G_Row) (v242 : List G_Pair) (v243 : List G_Row) {R : Type} (e0 : Bool → Option R) : Option R :=
  (g.band_CheckBusy v239 (fun r248 => (bif (r248 == v233) then (bif (v226 == v233) then (g.slices_Equal__Pair v240 v242 (fun r249 => (bif r249 then (bif (v227 == v234) then (g.slices_Equal__Row v241 v243 (fun r250 => (bif r250 then (bif (v230 == v235) then (bif (v228 == v237) then (bif (v229 == v238) then (bif (v232 == v233) then (bif (v231 == v236) then (g.law_banded (fun r251 => e0 r251)) else e0 false) else e0 false) else e0 false) else e0 false) else e0 false) else e0 false))) else e0 false) else e0 false))) else e0 false) else e0 false)))
def law_FrequenciesFree_J17 (g : C_law_FrequenciesFree) (v175 v176 v177 v178 : Int) (v179 : Bool) (v180 v181 v182 v183 v184 v185 v186 : Int) (v187 : List G_Busy) (v188 : List G_Pair) (v189 : List G_Row) (v190 : List G_Pair) (v191 : List G_Row) {R : Type} (e0 : Bool → Option R) : Option R :=
  (bif (v185 == 0) then (g.Q_NearestTo v191 v175 (fun r252 r253 => (law_FrequenciesFree_J20 g v176 v177 v178 v179 v180 v181 v182 v183 v184 v185 v186 r252 r253 v187 v188 v189 v190 v191 (fun e254 => e0 e254)))) else (law_FrequenciesFree_J20 g v176 v177 v178 v179 v180 v181 v182 v183 v184 v185 v186 0 false v187 v188 v189 v190 v191 (fun e255 => e0 e255)))
def law_FrequenciesFree_J14 (g : C_law_FrequenciesFree) (v68 : List UInt8) (v69 v70 v71 v72 v73 v74 v75 : Int) (v76 : Bool) (v77 v78 v79 v80 v81 v82 v83 : Int) (v84 : List G_Segment) (v85 : List G_Busy) (v86 : List G_Pair) (v87 : List G_Row) (v88 : List G_Pair) {R : Type} (e0 : Bool → Option R) : Option R :=
  (bif (v81 == 0) then (g.Q_FreeRows v84 v85 v68 v70 v69 v71 (fun r256 => (law_FrequenciesFree_J17 g v72 v73 v74 v75 v76 v77 v78 v79 v80 v81 v82 v83 v85 v86 v87 v88 r256 (fun e257 => e0 e257)))) else (law_FrequenciesFree_J17 g v72 v73 v74 v75 v76 v77 v78 v79 v80 v81 v82 v83 v85 v86 v87 v88 [] (fun e258 => e0 e258)))
def law_FrequenciesFree_ (g : C_law_FrequenciesFree) (a1 : List Int) {R : Type} (k0 : Bool → Option R) : Option R :=
  (g.Stream_Segments (⟨a1, 0⟩ : G_Stream) (fun r16 r17 => (g.Stream_Busies r17 (fun r18 r19 => (g.Stream_Some r19 [[102, 117, 108, 108], [102, 117, 108, 108], [115, 109, 97, 108, 108], []] (fun r20 r21 => (g.Stream_Wide r21 (fun r22 r23 => (g.Stream_Pick r23 [1, 1, 2, 3, 0] (fun r24 r25 => (g.Stream_Pick r25 [0, 20, 60, 90, (-1)] (fun r26 r27 => (g.Stream_Near r27 (fun r28 r29 => (g.band_TooNear r18 (fun r32 r33 => (g.band_Free r16 r18 r20 r24 r22 r26 (fun r36 r37 => (g.band_Nearest r16 r18 r20 r24 r22 r26 r28 (fun r41 r42 r43 => (g.band_Fewest r18 (fun r46 r47 => (g.Q_BusyFault r18 (fun r49 => (g.Q_SegmentsFault r16 (fun r56 => (g.law_nameFault r20 (fun r57 => (g.law_modeFault r24 (fun r58 => (g.law_widthFault r22 (fun r59 => (g.Q_MomentFault r26 (fun r60 => (g.law_errs [r56, r49, r57, r58, r59, r60] (fun r61 => (g.law_hertzFault r28 (fun r64 => (g.law_errs [r61, r64] (fun r65 => (bif (r49 == 0) then (g.Q_NearPairs r18 (fun r259 => (g.Q_FewestOf r18 (fun r260 => (law_FrequenciesFree_J14 g r20 r22 r24 r26 r28 r33 r37 r41 r42 r43 r46 r47 r49 r61 r65 r260 r16 r18 r32 r36 r259 (fun e261 => k0 e261)))))) else (law_FrequenciesFree_J14 g r20 r22 r24 r26 r28 r33 r37 r41 r42 r43 r46 r47 r49 r61 r65 0 r16 r18 r32 r36 [] (fun e262 => k0 e262)))))))))))))))))))))))))))))))))))))))))))
noncomputable def I_law_FrequenciesFree [Fuel] : C_law_FrequenciesFree := ⟨NN, @Stream_Some _, @Stream_Pick _, @law_errs _, @law_nameFault _, @Stream_Segments _, @Stream_Busies _, @Stream_Wide _, @Stream_Near _, @band_TooNear _, @band_Free _, @band_Nearest _, @band_Fewest _, @Q_BusyFault _, @Q_SegmentsFault _, @law_modeFault _, @law_widthFault _, @Q_MomentFault _, @law_hertzFault _, @Q_NearPairs _, @Q_FewestOf _, @Q_FreeRows _, @Q_NearestTo _, @Q_NearestTo_n0 _, @band_CheckBusy _, @slices_Equal__Pair _, @slices_Equal__Pair_n1 _, @slices_Equal__Row _, @slices_Equal__Row_n1 _, @law_banded _⟩
noncomputable def law_FrequenciesFree [Fuel] : T_law_FrequenciesFree := @law_FrequenciesFree_ I_law_FrequenciesFree
def SS_law_FrequenciesFree (g : T_law_FrequenciesFree) : Spec A := fun args => match args with | [.d (.sl 3 a1)] => fun k => g a1 (fun z0 => k (.d (.bool z0)) [.undef]) | _ => fun _ => none
def sh_law_FrequenciesFree_J20 : SSt := mkSh 175 14 [(5, .own 120 2), (11, .own 77 6), (12, .int .i64), (13, .own 80 7), (14, .int .i64), (15, .int .i64), (16, .bool), (17, .int .i64), (18, .int .i64), (19, .int .i64), (20, .int .i64), (21, .int .i64), (22, .int .i64), (23, .own 77 11), (24, .int .i64), (25, .own 80 13), (26, .int .i64), (27, .bool)] [(2, .row 120), (6, .row 77), (7, .row 80), (11, .row 77), (13, .row 80)]
def LP_law_FrequenciesFree_J20 (g : C_law_FrequenciesFree) : LPT A := fun ps => match ps with | [.d (.int .i64 p1), .d (.int .i64 p2), .d (.int .i64 p3), .d (.bool p4), .d (.int .i64 p5), .d (.int .i64 p6), .d (.int .i64 p7), .d (.int .i64 p8), .d (.int .i64 p9), .d (.int .i64 p10), .d (.int .i64 p11), .d (.int .i64 p12), .d (.bool p13), .d (.sl 120 p14), .d (.sl 77 p15), .d (.sl 80 p16), .d (.sl 77 p17), .d (.sl 80 p18)] => fun K => law_FrequenciesFree_J20 g p1 p2 p3 p4 p5 p6 p7 p8 p9 p10 p11 p12 p13 p14 p15 p16 p17 p18 (fun z0 => K .ret (mkSt 175 14 [(2, .d (.bool z0))] [])) | _ => fun _ => none
def sh_law_FrequenciesFree_J17 : SSt := mkSh 175 14 [(5, .own 120 2), (10, .int .i64), (11, .own 77 6), (12, .int .i64), (13, .own 80 7), (14, .int .i64), (15, .int .i64), (16, .bool), (17, .int .i64), (18, .int .i64), (19, .int .i64), (20, .int .i64), (21, .int .i64), (22, .int .i64), (23, .own 77 11), (24, .int .i64), (25, .own 80 13)] [(2, .row 120), (6, .row 77), (7, .row 80), (11, .row 77), (13, .row 80)]
def LP_law_FrequenciesFree_J17 (g : C_law_FrequenciesFree) : LPT A := fun ps => match ps with | [.d (.int .i64 p1), .d (.int .i64 p2), .d (.int .i64 p3), .d (.int .i64 p4), .d (.bool p5), .d (.int .i64 p6), .d (.int .i64 p7), .d (.int .i64 p8), .d (.int .i64 p9), .d (.int .i64 p10), .d (.int .i64 p11), .d (.int .i64 p12), .d (.sl 120 p13), .d (.sl 77 p14), .d (.sl 80 p15), .d (.sl 77 p16), .d (.sl 80 p17)] => fun K => law_FrequenciesFree_J17 g p1 p2 p3 p4 p5 p6 p7 p8 p9 p10 p11 p12 p13 p14 p15 p16 p17 (fun z0 => K .ret (mkSt 175 14 [(2, .d (.bool z0))] [])) | _ => fun _ => none
def sh_law_FrequenciesFree_J14 : SSt := mkSh 175 14 [(4, .own 115 1), (5, .own 120 2), (6, .str), (7, .int .i64), (8, .int .i64), (9, .int .i64), (10, .int .i64), (11, .own 77 6), (12, .int .i64), (13, .own 80 7), (14, .int .i64), (15, .int .i64), (16, .bool), (17, .int .i64), (18, .int .i64), (19, .int .i64), (20, .int .i64), (21, .int .i64), (22, .int .i64), (23, .own 77 11), (24, .int .i64)] [(1, .row 115), (2, .row 120), (6, .row 77), (7, .row 80), (11, .row 77)]
def LP_law_FrequenciesFree_J14 (g : C_law_FrequenciesFree) : LPT A := fun ps => match ps with | [.d (.str p1), .d (.int .i64 p2), .d (.int .i64 p3), .d (.int .i64 p4), .d (.int .i64 p5), .d (.int .i64 p6), .d (.int .i64 p7), .d (.int .i64 p8), .d (.bool p9), .d (.int .i64 p10), .d (.int .i64 p11), .d (.int .i64 p12), .d (.int .i64 p13), .d (.int .i64 p14), .d (.int .i64 p15), .d (.int .i64 p16), .d (.sl 115 p17), .d (.sl 120 p18), .d (.sl 77 p19), .d (.sl 80 p20), .d (.sl 77 p21)] => fun K => law_FrequenciesFree_J14 g p1 p2 p3 p4 p5 p6 p7 p8 p9 p10 p11 p12 p13 p14 p15 p16 p17 p18 p19 p20 p21 (fun z0 => K .ret (mkSt 175 14 [(2, .d (.bool z0))] [])) | _ => fun _ => none
noncomputable def code_4 : Code := (Tryz.f4.body).getD .skip
def CS_law_FrequenciesFree (g : C_law_FrequenciesFree) : List (Nat × Piece A) := [(20, pieceOf sh_law_FrequenciesFree_J20 (LP_law_FrequenciesFree_J20 g)), (17, pieceOf sh_law_FrequenciesFree_J17 (LP_law_FrequenciesFree_J17 g)), (14, pieceOf sh_law_FrequenciesFree_J14 (LP_law_FrequenciesFree_J14 g))]
noncomputable def E_law_FrequenciesFree (g : C_law_FrequenciesFree) : Env A := mkE [(8, SS_Stream_Some g.Stream_Some), (9, SS_Stream_Pick g.Stream_Pick), (14, SS_law_errs g.law_errs), (15, SS_law_nameFault g.law_nameFault), (25, SS_Stream_Segments g.Stream_Segments), (26, SS_Stream_Busies g.Stream_Busies), (27, SS_Stream_Wide g.Stream_Wide), (28, SS_Stream_Near g.Stream_Near), (29, SS_band_TooNear g.band_TooNear), (30, SS_band_Free g.band_Free), (31, SS_band_Nearest g.band_Nearest), (32, SS_band_Fewest g.band_Fewest), (33, SS_Q_BusyFault g.Q_BusyFault), (34, SS_Q_SegmentsFault g.Q_SegmentsFault), (35, SS_law_modeFault g.law_modeFault), (36, SS_law_widthFault g.law_widthFault), (37, SS_Q_MomentFault g.Q_MomentFault), (38, SS_law_hertzFault g.law_hertzFault), (39, SS_Q_NearPairs g.Q_NearPairs), (40, SS_Q_FewestOf g.Q_FewestOf), (41, SS_Q_FreeRows g.Q_FreeRows), (42, orS p_Q_NearestTo (SS_Q_NearestTo g.Q_NearestTo) (SS_Q_NearestTo_n0 g.Q_NearestTo_n0)), (43, SS_band_CheckBusy g.band_CheckBusy), (44, orS p_slices_Equal__Pair (SS_slices_Equal__Pair g.slices_Equal__Pair) (SS_slices_Equal__Pair_n1 g.slices_Equal__Pair_n1)), (45, orS p_slices_Equal__Row (SS_slices_Equal__Row g.slices_Equal__Row) (SS_slices_Equal__Row_n1 g.slices_Equal__Row_n1)), (46, SS_law_banded g.law_banded)] [(30, [0]), (32, [1]), (34, [2]), (36, [3]), (41, [4]), (44, [5]), (50, [6]), (60, [7]), (93, [8]), (98, [9]), (103, [10]), (114, [12])] [] [] [] [(20, ⟨[5, 11, 12, 13, 14, 15, 16, 17, 18, 19, 20, 21, 22, 23, 24, 25, 26, 27], [], [2, 6, 7, 11, 13], []⟩), (17, ⟨[5, 10, 11, 12, 13, 14, 15, 16, 17, 18, 19, 20, 21, 22, 23, 24, 25], [(25, 80, 13)], [2, 6, 7, 11], []⟩), (14, ⟨[4, 5, 6, 7, 8, 9, 10, 11, 12, 13, 14, 15, 16, 17, 18, 19, 20, 21, 22, 23, 24], [(23, 77, 11)], [1, 2, 6, 7], []⟩)] [(20, ⟨[2], [], [], []⟩), (17, ⟨[2], [], [], []⟩), (14, ⟨[2], [], [], []⟩)] (CS_law_FrequenciesFree g) [] []
theorem ct_law_FrequenciesFree [Fuel] : NatTab (E_law_FrequenciesFree I_law_FrequenciesFree).C := ct_of (P := Tryz.prog) (T := T) (.cons ok_Stream_Some (.cons ok_Stream_Pick (.cons ok_law_errs (.cons ok_law_nameFault (.cons ok_Stream_Segments (.cons ok_Stream_Busies (.cons ok_Stream_Wide (.cons ok_Stream_Near (.cons ok_band_TooNear (.cons ok_band_Free (.cons ok_band_Nearest (.cons ok_band_Fewest (.cons ok_Q_BusyFault (.cons ok_Q_SegmentsFault (.cons ok_law_modeFault (.cons ok_law_widthFault (.cons ok_Q_MomentFault (.cons ok_law_hertzFault (.cons ok_Q_NearPairs (.cons ok_Q_FewestOf (.cons ok_Q_FreeRows (.cons (ok_or p_Q_NearestTo ok_Q_NearestTo ok_Q_NearestTo_n0) (.cons ok_band_CheckBusy (.cons (ok_or p_slices_Equal__Pair ok_slices_Equal__Pair ok_slices_Equal__Pair_n1) (.cons (ok_or p_slices_Equal__Row ok_slices_Equal__Row ok_slices_Equal__Row_n1) (.cons ok_law_banded .nil)))))))))))))))))))))))))) (by kernel_rfl)
noncomputable def cb_law_FrequenciesFree_J20 : Code := sub [1, 1, 1, 1, 1, 1, 1, 1, 1, 1, 1, 1, 1, 1, 1, 1, 1] code_4
theorem s_law_FrequenciesFree_J20 (g : C_law_FrequenciesFree) : JumpOk (E_law_FrequenciesFree g) g.N cb_law_FrequenciesFree_J20 sh_law_FrequenciesFree_J20 (LP_law_FrequenciesFree_J20 g) := by intro ps; unfold LP_law_FrequenciesFree_J20; split; exact .inr fun R K => (by kernel_rfl); exact .inl fun R K => rfl
theorem sf_law_FrequenciesFree_J20 [Fuel] : SeqFine (E_law_FrequenciesFree I_law_FrequenciesFree) NN cb_law_FrequenciesFree_J20 := fine_jump sh_law_FrequenciesFree_J20 (LP_law_FrequenciesFree_J20 I_law_FrequenciesFree) (by kernel_rfl) ct_law_FrequenciesFree (cutsJ (cs := CS_law_FrequenciesFree I_law_FrequenciesFree) rfl .nil .nil (by kernel_rfl) (by kernel_rfl)) (s_law_FrequenciesFree_J20 I_law_FrequenciesFree)
noncomputable def cb_law_FrequenciesFree_J17 : Code := sub [1, 1, 1, 1, 1, 1, 1, 1, 1, 1, 1, 1, 1, 1, 1] code_4
theorem s_law_FrequenciesFree_J17 (g : C_law_FrequenciesFree) : JumpOk (E_law_FrequenciesFree g) g.N cb_law_FrequenciesFree_J17 sh_law_FrequenciesFree_J17 (LP_law_FrequenciesFree_J17 g) := by intro ps; unfold LP_law_FrequenciesFree_J17; split; exact .inr fun R K => (by kernel_rfl); exact .inl fun R K => rfl
theorem sf_law_FrequenciesFree_J17 [Fuel] : SeqFine (E_law_FrequenciesFree I_law_FrequenciesFree) NN cb_law_FrequenciesFree_J17 := fine_jump sh_law_FrequenciesFree_J17 (LP_law_FrequenciesFree_J17 I_law_FrequenciesFree) (by kernel_rfl) ct_law_FrequenciesFree (cutsJ (cs := CS_law_FrequenciesFree I_law_FrequenciesFree) rfl .nil (.cons sf_law_FrequenciesFree_J20 .nil) (by kernel_rfl) (by kernel_rfl)) (s_law_FrequenciesFree_J17 I_law_FrequenciesFree)
noncomputable def cb_law_FrequenciesFree_J14 : Code := sub [1, 1, 1, 1, 1, 1, 1, 1, 1, 1, 1, 1, 1] code_4
theorem s_law_FrequenciesFree_J14 (g : C_law_FrequenciesFree) : JumpOk (E_law_FrequenciesFree g) g.N cb_law_FrequenciesFree_J14 sh_law_FrequenciesFree_J14 (LP_law_FrequenciesFree_J14 g) := by intro ps; unfold LP_law_FrequenciesFree_J14; split; exact .inr fun R K => (by kernel_rfl); exact .inl fun R K => rfl
theorem sf_law_FrequenciesFree_J14 [Fuel] : SeqFine (E_law_FrequenciesFree I_law_FrequenciesFree) NN cb_law_FrequenciesFree_J14 := fine_jump sh_law_FrequenciesFree_J14 (LP_law_FrequenciesFree_J14 I_law_FrequenciesFree) (by kernel_rfl) ct_law_FrequenciesFree (cutsJ (cs := CS_law_FrequenciesFree I_law_FrequenciesFree) rfl .nil (.cons sf_law_FrequenciesFree_J20 (.cons sf_law_FrequenciesFree_J17 .nil)) (by kernel_rfl) (by kernel_rfl)) (s_law_FrequenciesFree_J14 I_law_FrequenciesFree)
theorem sm_law_FrequenciesFree (g : C_law_FrequenciesFree) : Same (SS_law_FrequenciesFree (@law_FrequenciesFree_ g)) (abody (E_law_FrequenciesFree g) Tryz.f4 code_4 14 [] [.asis] g.N) := by intro args; unfold SS_law_FrequenciesFree; split; exact .inr fun R k => (by kernel_rfl); exact .inl fun R k => rfl
theorem ok_law_FrequenciesFree [Fuel] : Ok 4 (SS_law_FrequenciesFree (@law_FrequenciesFree _)) := okF_of std (.cons ok_Stream_Some (.cons ok_Stream_Pick (.cons ok_law_errs (.cons ok_law_nameFault (.cons ok_Stream_Segments (.cons ok_Stream_Busies (.cons ok_Stream_Wide (.cons ok_Stream_Near (.cons ok_band_TooNear (.cons ok_band_Free (.cons ok_band_Nearest (.cons ok_band_Fewest (.cons ok_Q_BusyFault (.cons ok_Q_SegmentsFault (.cons ok_law_modeFault (.cons ok_law_widthFault (.cons ok_Q_MomentFault (.cons ok_law_hertzFault (.cons ok_Q_NearPairs (.cons ok_Q_FewestOf (.cons ok_Q_FreeRows (.cons (ok_or p_Q_NearestTo ok_Q_NearestTo ok_Q_NearestTo_n0) (.cons ok_band_CheckBusy (.cons (ok_or p_slices_Equal__Pair ok_slices_Equal__Pair ok_slices_Equal__Pair_n1) (.cons (ok_or p_slices_Equal__Row ok_slices_Equal__Row ok_slices_Equal__Row_n1) (.cons ok_law_banded .nil)))))))))))))))))))))))))) ⟨rfl, rfl, by kernel_rfl, rfl, rfl, rfl⟩ (sm_law_FrequenciesFree I_law_FrequenciesFree) (cutsJ (cs := CS_law_FrequenciesFree I_law_FrequenciesFree) rfl .nil (.cons sf_law_FrequenciesFree_J20 (.cons sf_law_FrequenciesFree_J17 (.cons sf_law_FrequenciesFree_J14 .nil))) (by kernel_rfl) (by kernel_rfl)) Tryz.func4 (by kernel_rfl) (by kernel_rfl)
end Go.Am
