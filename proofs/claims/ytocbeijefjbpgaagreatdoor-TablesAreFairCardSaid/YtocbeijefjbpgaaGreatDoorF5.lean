/- The functions of the program as Lean functions, each shown to be what the code computes, part 5. No condition: lemmas for the claim. -/
import Derived.Test.YtocbeijefjbpgaaGreatDoorF0
import Derived.Test.YtocbeijefjbpgaaGreatDoorFSh
import Derived.Test.YtocbeijefjbpgaaGreatDoorF2
import Derived.Test.YtocbeijefjbpgaaGreatDoorF3
import Derived.Test.YtocbeijefjbpgaaGreatDoorF4
set_option linter.unusedVariables false
set_option maxRecDepth 100000
namespace Go.Am
open Go Go.Proofs
abbrev T_band_permitted : Type 1 := List G_Segment → List UInt8 → Int → Int → {R : Type} → (List G_Row → Option R) → Option R
structure C_band_permitted where
 N : Nat
 slices_Contains__int : T_slices_Contains__int
 kit_Has : T_kit_Has
 band_joined : T_band_joined
def band_permitted_L3 (g : C_band_permitted) : Nat → List UInt8 → Int → Int → List G_Segment → Int → Int → List G_Row → {R : Type} → (List G_Row → Option R) → Option R
 | 0, _, _, _, _, _, _, _, _, _ => none
 | n + 1, v5, v6, v7, v8, v9, v10, v11, _, e0 => (bif (decide (v10 < v9)) then (get_ v8 v10 fun x16 => (bif (x16.f_Class == v5) then (bif (v6 == 0) then (g.kit_Has x16.f_Time v7 (fun r17 => (bif r17 then (bif (decide ((v11.length + [(⟨x16.f_Low, x16.f_High⟩ : G_Row)].length) * 16 ≤ roomBytes')) then band_permitted_L3 g n v5 v6 v7 v8 v9 (w64 (v10 + 1)) (v11 ++ [(⟨x16.f_Low, x16.f_High⟩ : G_Row)]) e0 else none) else band_permitted_L3 g n v5 v6 v7 v8 v9 (w64 (v10 + 1)) v11 e0))) else (g.slices_Contains__int x16.f_Modes v6 (fun r18 => (bif r18 then (g.kit_Has x16.f_Time v7 (fun r19 => (bif r19 then (bif (decide ((v11.length + [(⟨x16.f_Low, x16.f_High⟩ : G_Row)].length) * 16 ≤ roomBytes')) then band_permitted_L3 g n v5 v6 v7 v8 v9 (w64 (v10 + 1)) (v11 ++ [(⟨x16.f_Low, x16.f_High⟩ : G_Row)]) e0 else none) else band_permitted_L3 g n v5 v6 v7 v8 v9 (w64 (v10 + 1)) v11 e0))) else band_permitted_L3 g n v5 v6 v7 v8 v9 (w64 (v10 + 1)) v11 e0)))) else band_permitted_L3 g n v5 v6 v7 v8 v9 (w64 (v10 + 1)) v11 e0)) else e0 v11)
def band_permitted_ (g : C_band_permitted) (a1 : List G_Segment) (a2 : List UInt8) (a3 a4 : Int) {R : Type} (k0 : List G_Row → Option R) : Option R :=
 (band_permitted_L3 g g.N a2 a3 a4 a1 (a1.length : Int) 0 [] (fun e20 => (g.band_joined e20 (fun r21 => k0 r21))))
noncomputable def I_band_permitted [Fuel] : C_band_permitted := ⟨NN, @slices_Contains__int _, @kit_Has _, @band_joined _⟩
noncomputable def band_permitted [Fuel] : T_band_permitted := @band_permitted_ I_band_permitted
def SS_band_permitted (g : T_band_permitted) : Spec A := fun args => match args with | [.d (.sl 68 a1), .d (.str a2), .d (.int .i64 a3), .d (.int .i64 a4)] => fun k => g a1 a2 a3 a4 (fun z0 => k (.arr 52 z0) [.undef, .undef, .undef, .undef]) | _ => fun _ => none
def sh_band_permitted_L3 : SSt := mkSh 49 5 [(1, .str), (2, .int .i64), (3, .int .i64), (9, .own 52 0), (12, .sl 68), (13, .int .i64), (14, .int .i64)] [(0, .row 52)]
def LP_band_permitted_L3 (g : C_band_permitted) (n : Nat) : LPT A := fun ps => match ps with | [.d (.str p1), .d (.int .i64 p2), .d (.int .i64 p3), .d (.sl 68 p4), .d (.int .i64 p5), .d (.int .i64 p6), .d (.sl 52 p7)] => fun K => band_permitted_L3 g n p1 p2 p3 p4 p5 p6 p7 (fun z0 => K (.exit 0) (mkSt 49 5 [(9, .own 52 0)] [(0, some (.row 52 z0))])) | _ => fun _ => none
noncomputable def code_48 : Code := (Tryz.f48.body).getD .skip
noncomputable def E_band_permitted (g : C_band_permitted) : Env A := mkE [(75, SS_slices_Contains__int g.slices_Contains__int), (82, SS_kit_Has g.kit_Has), (83, SS_band_joined g.band_joined)] [(11, [1]), (44, [2]), (45, [3]), (48, [4])] [(3, ⟨[1, 2, 3, 9, 12, 13, 14], [(9, 52, 0)], [], [], [], []⟩)] [(3, ⟨[9], [], [0], [], [], []⟩)] [(3, pieceOf sh_band_permitted_L3 (LP_band_permitted_L3 g g.N))] [] [] [] [(83, 0)] []
theorem ct_band_permitted [Fuel] : NatTab (E_band_permitted I_band_permitted).C := ct_of (P := Tryz.prog) (T := T) (.cons ok_slices_Contains__int (.cons ok_kit_Has (.cons ok_band_joined .nil))) (by kernel_rfl)
noncomputable def cb_band_permitted_L3 : Code := sub [1, 1, 0, 1, 0, 0] code_48
theorem s_band_permitted_L3 (g : C_band_permitted) (n : Nat) : StepOk (E_band_permitted g) g.N cb_band_permitted_L3 sh_band_permitted_L3 (LP_band_permitted_L3 g) n := by intro ps; unfold LP_band_permitted_L3; split; exact .inr fun R K => (by kernel_rfl); exact .inl fun R K => rfl
theorem lf_band_permitted_L3 [Fuel] : LoopFine (E_band_permitted I_band_permitted) NN cb_band_permitted_L3 := fine_loop sh_band_permitted_L3 (LP_band_permitted_L3 I_band_permitted) (by kernel_rfl) ct_band_permitted (cuts0 (fun _ => rfl) (by kernel_rfl)) (fun ps R K => by unfold LP_band_permitted_L3; split <;> (try unfold band_permitted_L3) <;> rfl) (s_band_permitted_L3 I_band_permitted)
theorem sm_band_permitted (g : C_band_permitted) : Same (SS_band_permitted (@band_permitted_ g)) (abody (E_band_permitted g) Tryz.f48 code_48 5 [] [.arr 52] g.N) := by intro args; unfold SS_band_permitted; split; exact .inr fun R k => (by kernel_rfl); exact .inl fun R k => rfl
theorem ok_band_permitted [Fuel] : Ok 48 (SS_band_permitted (@band_permitted _)) := okF_of std (.cons ok_slices_Contains__int (.cons ok_kit_Has (.cons ok_band_joined .nil))) ⟨rfl, rfl, by kernel_rfl, rfl, rfl, rfl⟩ (sm_band_permitted I_band_permitted) (cutsL (fun _ => rfl) (.cons lf_band_permitted_L3 .nil) (by kernel_rfl)) Tryz.func48 (by kernel_rfl) (by kernel_rfl)
abbrev T_band_May_1 : Type 1 := G_Row → G_Row → {R : Type} → (Bool → G_Row → Option R) → Option R
def band_May_1_ (g : Nat) (a1 a2 : G_Row) {R : Type} (k0 : Bool → G_Row → Option R) : Option R :=
 (bif (decide (a1.f_From ≤ a2.f_From)) then k0 (decide (a2.f_To ≤ a1.f_To)) a2 else k0 false a2)
noncomputable def band_May_1 [Fuel] : T_band_May_1 := @band_May_1_ NN
def SS_band_May_1 (g : T_band_May_1) : Spec A := fun args => match args with | [.agg [.d (.int .i64 a1), .d (.int .i64 a2)], .box [.d (.int .i64 a3), .d (.int .i64 a4)]] => fun k => g ⟨a1, a2⟩ ⟨a3, a4⟩ (fun z0 z1 => k (.d (.bool z0)) [.undef, .box [.d (.int .i64 z1.f_From), .d (.int .i64 z1.f_To)]]) | _ => fun _ => none
noncomputable def code_49 : Code := (Tryz.f49.body).getD .skip
noncomputable def E_band_May_1 (g : Nat) : Env A := mkE [] [(2, [1])] [] [] [] [] [] [] [] [1]
theorem sm_band_May_1 (g : Nat) : Same (SS_band_May_1 (@band_May_1_ g)) (abody (E_band_May_1 g) Tryz.f49 code_49 2 [0] [.asis] g) := by intro args; unfold SS_band_May_1; split; exact .inr fun R k => (by kernel_rfl); exact .inl fun R k => rfl
theorem ok_band_May_1 [Fuel] : Ok 49 (SS_band_May_1 (@band_May_1 _)) := okF_of std .nil ⟨rfl, rfl, by kernel_rfl, rfl, rfl, rfl⟩ (sm_band_May_1 NN) (cuts0 (fun _ => rfl) (by kernel_rfl)) Tryz.func49 (by kernel_rfl) (by kernel_rfl)
abbrev T_slices_IndexFunc__Row_band_May_1 : Type 1 := List G_Row → G_Row → {R : Type} → (Int → G_Row → Option R) → Option R
structure C_slices_IndexFunc__Row_band_May_1 where
 N : Nat
 band_May_1 : T_band_May_1
def slices_IndexFunc__Row_band_May_1_L2 (g : C_slices_IndexFunc__Row_band_May_1) : Nat → List G_Row → Int → Int → G_Row → {R : Type} → (Int → G_Row → Option R) → (G_Row → Option R) → Option R
 | 0, _, _, _, _, _, _, _ => none
 | n + 1, v3, v4, v5, v6, _, e0, e1 => (bif (decide (v5 < v4)) then (get_ v3 v5 fun x10 => (g.band_May_1 x10 v6 (fun r11 r12 => (bif r11 then e0 v5 r12 else slices_IndexFunc__Row_band_May_1_L2 g n v3 v4 (w64 (v5 + 1)) r12 e0 e1)))) else e1 v6)
def slices_IndexFunc__Row_band_May_1_ (g : C_slices_IndexFunc__Row_band_May_1) (a1 : List G_Row) (a2 : G_Row) {R : Type} (k0 : Int → G_Row → Option R) : Option R :=
 (slices_IndexFunc__Row_band_May_1_L2 g g.N a1 (a1.length : Int) 0 a2 (fun e13 e14 => k0 e13 e14) (fun e15 => k0 (-1) e15))
noncomputable def I_slices_IndexFunc__Row_band_May_1 [Fuel] : C_slices_IndexFunc__Row_band_May_1 := ⟨NN, @band_May_1 _⟩
noncomputable def slices_IndexFunc__Row_band_May_1 [Fuel] : T_slices_IndexFunc__Row_band_May_1 := @slices_IndexFunc__Row_band_May_1_ I_slices_IndexFunc__Row_band_May_1
def SS_slices_IndexFunc__Row_band_May_1 (g : T_slices_IndexFunc__Row_band_May_1) : Spec A := fun args => match args with | [.d (.sl 52 a1), .fn 49 [.box [.d (.int .i64 a2), .d (.int .i64 a3)]]] => fun k => g a1 ⟨a2, a3⟩ (fun z0 z1 => k (.d (.int .i64 z0)) [.undef, .fn 49 [.box [.d (.int .i64 z1.f_From), .d (.int .i64 z1.f_To)]]]) | _ => fun _ => none
def sh_slices_IndexFunc__Row_band_May_1_L2 : SSt := mkSh 19 1 [(0, .sl 52), (1, .fn 49 [.ptr 0 0]), (7, .int .i64), (8, .int .i64)] [(0, .box [.int .i64, .int .i64])]
def LP_slices_IndexFunc__Row_band_May_1_L2 (g : C_slices_IndexFunc__Row_band_May_1) (n : Nat) : LPT A := fun ps => match ps with | [.d (.sl 52 p1), .d (.int .i64 p2), .d (.int .i64 p3), .d (.int .i64 p4), .d (.int .i64 p5)] => fun K => slices_IndexFunc__Row_band_May_1_L2 g n p1 p2 p3 ⟨p4, p5⟩ (fun z0 z1 => K .ret (mkSt 19 1 [(1, .fn 49 [.ptr 0 0]), (4, .d (.int .i64 z0))] [(0, some (.box [.d (.int .i64 z1.f_From), .d (.int .i64 z1.f_To)]))])) (fun z0 => K (.exit 0) (mkSt 19 1 [(1, .fn 49 [.ptr 0 0])] [(0, some (.box [.d (.int .i64 z0.f_From), .d (.int .i64 z0.f_To)]))])) | _ => fun _ => none
noncomputable def code_81 : Code := (Tryz.f81.body).getD .skip
noncomputable def E_slices_IndexFunc__Row_band_May_1 (g : C_slices_IndexFunc__Row_band_May_1) : Env A := mkE [(49, SS_band_May_1 g.band_May_1)] [] [(2, ⟨[0, 1, 7, 8], [], [0], [], [], []⟩)] [(2, ⟨[1, 4], [], [0], [], [], []⟩)] [(2, pieceOf sh_slices_IndexFunc__Row_band_May_1_L2 (LP_slices_IndexFunc__Row_band_May_1_L2 g g.N))] [] [] [] [] [1]
theorem ct_slices_IndexFunc__Row_band_May_1 [Fuel] : NatTab (E_slices_IndexFunc__Row_band_May_1 I_slices_IndexFunc__Row_band_May_1).C := ct_of (P := Tryz.prog) (T := T) (.cons ok_band_May_1 .nil) (by kernel_rfl)
noncomputable def cb_slices_IndexFunc__Row_band_May_1_L2 : Code := sub [1, 0, 1, 0, 0] code_81
theorem s_slices_IndexFunc__Row_band_May_1_L2 (g : C_slices_IndexFunc__Row_band_May_1) (n : Nat) : StepOk (E_slices_IndexFunc__Row_band_May_1 g) g.N cb_slices_IndexFunc__Row_band_May_1_L2 sh_slices_IndexFunc__Row_band_May_1_L2 (LP_slices_IndexFunc__Row_band_May_1_L2 g) n := by intro ps; unfold LP_slices_IndexFunc__Row_band_May_1_L2; split; exact .inr fun R K => (by kernel_rfl); exact .inl fun R K => rfl
theorem lf_slices_IndexFunc__Row_band_May_1_L2 [Fuel] : LoopFine (E_slices_IndexFunc__Row_band_May_1 I_slices_IndexFunc__Row_band_May_1) NN cb_slices_IndexFunc__Row_band_May_1_L2 := fine_loop sh_slices_IndexFunc__Row_band_May_1_L2 (LP_slices_IndexFunc__Row_band_May_1_L2 I_slices_IndexFunc__Row_band_May_1) (by kernel_rfl) ct_slices_IndexFunc__Row_band_May_1 (cuts0 (fun _ => rfl) (by kernel_rfl)) (fun ps R K => by unfold LP_slices_IndexFunc__Row_band_May_1_L2; split <;> (try unfold slices_IndexFunc__Row_band_May_1_L2) <;> rfl) (s_slices_IndexFunc__Row_band_May_1_L2 I_slices_IndexFunc__Row_band_May_1)
theorem sm_slices_IndexFunc__Row_band_May_1 (g : C_slices_IndexFunc__Row_band_May_1) : Same (SS_slices_IndexFunc__Row_band_May_1 (@slices_IndexFunc__Row_band_May_1_ g)) (abody (E_slices_IndexFunc__Row_band_May_1 g) Tryz.f81 code_81 1 [0] [.asis] g.N) := by intro args; unfold SS_slices_IndexFunc__Row_band_May_1; split; exact .inr fun R k => (by kernel_rfl); exact .inl fun R k => rfl
theorem ok_slices_IndexFunc__Row_band_May_1 [Fuel] : Ok 81 (SS_slices_IndexFunc__Row_band_May_1 (@slices_IndexFunc__Row_band_May_1 _)) := okF_of std (.cons ok_band_May_1 .nil) ⟨rfl, rfl, by kernel_rfl, rfl, rfl, rfl⟩ (sm_slices_IndexFunc__Row_band_May_1 I_slices_IndexFunc__Row_band_May_1) (cutsL (fun _ => rfl) (.cons lf_slices_IndexFunc__Row_band_May_1_L2 .nil) (by kernel_rfl)) Tryz.func81 (by kernel_rfl) (by kernel_rfl)
abbrev T_slices_ContainsFunc__Row_band_May_1 : Type 1 := List G_Row → G_Row → {R : Type} → (Bool → G_Row → Option R) → Option R
structure C_slices_ContainsFunc__Row_band_May_1 where
 N : Nat
 slices_IndexFunc__Row_band_May_1 : T_slices_IndexFunc__Row_band_May_1
def slices_ContainsFunc__Row_band_May_1_ (g : C_slices_ContainsFunc__Row_band_May_1) (a1 : List G_Row) (a2 : G_Row) {R : Type} (k0 : Bool → G_Row → Option R) : Option R :=
 (g.slices_IndexFunc__Row_band_May_1 a1 a2 (fun r3 r4 => k0 (decide (r3 ≥ 0)) r4))
noncomputable def I_slices_ContainsFunc__Row_band_May_1 [Fuel] : C_slices_ContainsFunc__Row_band_May_1 := ⟨NN, @slices_IndexFunc__Row_band_May_1 _⟩
noncomputable def slices_ContainsFunc__Row_band_May_1 [Fuel] : T_slices_ContainsFunc__Row_band_May_1 := @slices_ContainsFunc__Row_band_May_1_ I_slices_ContainsFunc__Row_band_May_1
def SS_slices_ContainsFunc__Row_band_May_1 (g : T_slices_ContainsFunc__Row_band_May_1) : Spec A := fun args => match args with | [.d (.sl 52 a1), .fn 49 [.box [.d (.int .i64 a2), .d (.int .i64 a3)]]] => fun k => g a1 ⟨a2, a3⟩ (fun z0 z1 => k (.d (.bool z0)) [.undef, .fn 49 [.box [.d (.int .i64 z1.f_From), .d (.int .i64 z1.f_To)]]]) | _ => fun _ => none
noncomputable def code_47 : Code := (Tryz.f47.body).getD .skip
noncomputable def E_slices_ContainsFunc__Row_band_May_1 (g : C_slices_ContainsFunc__Row_band_May_1) : Env A := mkE [(81, SS_slices_IndexFunc__Row_band_May_1 g.slices_IndexFunc__Row_band_May_1)] [] [] [] [] [] [] [] [(81, 0)] [1]
theorem sm_slices_ContainsFunc__Row_band_May_1 (g : C_slices_ContainsFunc__Row_band_May_1) : Same (SS_slices_ContainsFunc__Row_band_May_1 (@slices_ContainsFunc__Row_band_May_1_ g)) (abody (E_slices_ContainsFunc__Row_band_May_1 g) Tryz.f47 code_47 1 [0] [.asis] g.N) := by intro args; unfold SS_slices_ContainsFunc__Row_band_May_1; split; exact .inr fun R k => (by kernel_rfl); exact .inl fun R k => rfl
theorem ok_slices_ContainsFunc__Row_band_May_1 [Fuel] : Ok 47 (SS_slices_ContainsFunc__Row_band_May_1 (@slices_ContainsFunc__Row_band_May_1 _)) := okF_of std (.cons ok_slices_IndexFunc__Row_band_May_1 .nil) ⟨rfl, rfl, by kernel_rfl, rfl, rfl, rfl⟩ (sm_slices_ContainsFunc__Row_band_May_1 I_slices_ContainsFunc__Row_band_May_1) (cuts0 (fun _ => rfl) (by kernel_rfl)) Tryz.func47 (by kernel_rfl) (by kernel_rfl)
abbrev T_band_May : Type 1 := List G_Segment → List UInt8 → Int → Int → Int → Int → {R : Type} → (Bool → Int → Option R) → Option R
structure C_band_May where
 N : Nat
 kit_IsKey : T_kit_IsKey
 kit_Outside : T_kit_Outside
 band_CheckSegments : T_band_CheckSegments
 kit_IsMode : T_kit_IsMode
 kit_IsMoment : T_kit_IsMoment
 band_used : T_band_used
 slices_ContainsFunc__Row_band_May_1 : T_slices_ContainsFunc__Row_band_May_1
 band_permitted : T_band_permitted
def band_May_ (g : C_band_May) (a1 : List G_Segment) (a2 : List UInt8) (a3 a4 a5 a6 : Int) {R : Type} (k0 : Bool → Int → Option R) : Option R :=
 (g.band_CheckSegments a1 (fun r7 => (bif (r7 != 0) then k0 false r7 else (g.kit_IsKey a2 (fun r8 => (bif (!r8) then k0 false 5 else (g.kit_Outside a3 0 30000000000 (fun r9 => (bif r9 then k0 false 1 else (g.kit_Outside a4 1 100000 (fun r10 => (bif r10 then k0 false 1 else (g.kit_IsMode a5 (fun r11 => (bif (!r11) then k0 false 4 else (g.kit_IsMoment a6 (fun r12 => (bif (!r12) then k0 false 1 else (g.band_used a3 a4 (fun r13 => (g.band_permitted a1 a2 a5 a6 (fun r14 => (g.slices_ContainsFunc__Row_band_May_1 r14 r13 (fun r15 r16 => k0 r15 0))))))))))))))))))))))))
noncomputable def I_band_May [Fuel] : C_band_May := ⟨NN, @kit_IsKey _, @kit_Outside _, @band_CheckSegments _, @kit_IsMode _, @kit_IsMoment _, @band_used _, @slices_ContainsFunc__Row_band_May_1 _, @band_permitted _⟩
noncomputable def band_May [Fuel] : T_band_May := @band_May_ I_band_May
def SS_band_May (g : T_band_May) : Spec A := fun args => match args with | [.d (.sl 68 a1), .d (.str a2), .d (.int .i64 a3), .d (.int .i64 a4), .d (.int .i64 a5), .d (.int .i64 a6)] => fun k => g a1 a2 a3 a4 a5 a6 (fun z0 z1 => k (.tup [.d (.bool z0), .d (.int .i64 z1)]) [.undef, .undef, .undef, .undef, .undef, .undef]) | _ => fun _ => none
noncomputable def code_25 : Code := (Tryz.f25.body).getD .skip
noncomputable def E_band_May (g : C_band_May) : Env A := mkE [(28, SS_kit_IsKey g.kit_IsKey), (36, SS_kit_Outside g.kit_Outside), (43, SS_band_CheckSegments g.band_CheckSegments), (44, SS_kit_IsMode g.kit_IsMode), (45, SS_kit_IsMoment g.kit_IsMoment), (46, SS_band_used g.band_used), (47, SS_slices_ContainsFunc__Row_band_May_1 g.slices_ContainsFunc__Row_band_May_1), (48, SS_band_permitted g.band_permitted)] [(15, [0]), (47, [1])] [] [] [] [] [] [] [] []
theorem sm_band_May (g : C_band_May) : Same (SS_band_May (@band_May_ g)) (abody (E_band_May g) Tryz.f25 code_25 2 [] [.asis, .asis] g.N) := by intro args; unfold SS_band_May; split; exact .inr fun R k => (by kernel_rfl); exact .inl fun R k => rfl
theorem ok_band_May [Fuel] : Ok 25 (SS_band_May (@band_May _)) := okF_of std (.cons ok_kit_IsKey (.cons ok_kit_Outside (.cons ok_band_CheckSegments (.cons ok_kit_IsMode (.cons ok_kit_IsMoment (.cons ok_band_used (.cons ok_slices_ContainsFunc__Row_band_May_1 (.cons ok_band_permitted .nil)))))))) ⟨rfl, rfl, by kernel_rfl, rfl, rfl, rfl⟩ (sm_band_May I_band_May) (cuts0 (fun _ => rfl) (by kernel_rfl)) Tryz.func25 (by kernel_rfl) (by kernel_rfl)
abbrev T_club_isSquare : Type 1 := List UInt8 → {R : Type} → (Bool → Option R) → Option R
def club_isSquare_L4 (g : Nat) : Nat → List UInt8 → Int → Int → {R : Type} → (Bool → Option R) → Option R → Option R
 | 0, _, _, _, _, _, _ => none
 | n + 1, v2, v3, v4, _, e0, e1 => (bif (decide (v4 < v3)) then (bif ((w64 (Int.tdiv v4 2)) == 1) then (get_ v2 v4 fun x11 => (bif (decide ((x11.toNat : Int) < 48)) then e0 false else (get_ v2 v4 fun x12 => (bif (decide ((x12.toNat : Int) > 57)) then e0 false else club_isSquare_L4 g n v2 v3 (w64 (v4 + 1)) e0 e1)))) else (bif ((w64 (Int.tdiv v4 2)) == 2) then (get_ v2 v4 fun x13 => (bif (decide ((x13.toNat : Int) < 97)) then e0 false else (get_ v2 v4 fun x14 => (bif (decide ((x14.toNat : Int) > 120)) then e0 false else club_isSquare_L4 g n v2 v3 (w64 (v4 + 1)) e0 e1)))) else (get_ v2 v4 fun x15 => (bif (decide ((x15.toNat : Int) < 97)) then e0 false else (get_ v2 v4 fun x16 => (bif (decide ((x16.toNat : Int) > 114)) then e0 false else club_isSquare_L4 g n v2 v3 (w64 (v4 + 1)) e0 e1)))))) else e1)
def club_isSquare_ (g : Nat) (a1 : List UInt8) {R : Type} (k0 : Bool → Option R) : Option R :=
 (bif ((a1.length : Int) != 2) then (bif ((a1.length : Int) != 4) then (bif ((a1.length : Int) != 6) then k0 false else (club_isSquare_L4 g g a1 (a1.length : Int) 0 (fun e17 => k0 e17) (k0 true))) else (club_isSquare_L4 g g a1 (a1.length : Int) 0 (fun e18 => k0 e18) (k0 true))) else (club_isSquare_L4 g g a1 (a1.length : Int) 0 (fun e19 => k0 e19) (k0 true)))
noncomputable def club_isSquare [Fuel] : T_club_isSquare := @club_isSquare_ NN
def SS_club_isSquare (g : T_club_isSquare) : Spec A := fun args => match args with | [.d (.str a1)] => fun k => g a1 (fun z0 => k (.d (.bool z0)) [.undef]) | _ => fun _ => none
def sh_club_isSquare_L4 : SSt := mkSh 43 0 [(0, .str), (20, .int .i64), (21, .int .i64)] []
def LP_club_isSquare_L4 (g : Nat) (n : Nat) : LPT A := fun ps => match ps with | [.d (.str p1), .d (.int .i64 p2), .d (.int .i64 p3)] => fun K => club_isSquare_L4 g n p1 p2 p3 (fun z0 => K .ret (mkSt 43 0 [(2, .d (.bool z0))] [])) (K (.exit 0) (mkSt 43 0 [] [])) | _ => fun _ => none
noncomputable def code_89 : Code := (Tryz.f89.body).getD .skip
noncomputable def E_club_isSquare (g : Nat) : Env A := mkE [] [] [(4, ⟨[0, 20, 21], [], [], [], [], []⟩)] [(4, ⟨[2], [], [], [], [], []⟩)] [(4, pieceOf sh_club_isSquare_L4 (LP_club_isSquare_L4 g g))] [] [] [] [] []
theorem ct_club_isSquare [Fuel] : NatTab (E_club_isSquare NN).C := ct_of (P := Tryz.prog) (T := T) .nil (by kernel_rfl)
noncomputable def cb_club_isSquare_L4 : Code := sub [1, 1, 0, 1, 0, 0] code_89
theorem s_club_isSquare_L4 (g : Nat) (n : Nat) : StepOk (E_club_isSquare g) g cb_club_isSquare_L4 sh_club_isSquare_L4 (LP_club_isSquare_L4 g) n := by intro ps; unfold LP_club_isSquare_L4; split; exact .inr fun R K => (by kernel_rfl); exact .inl fun R K => rfl
theorem lf_club_isSquare_L4 [Fuel] : LoopFine (E_club_isSquare NN) NN cb_club_isSquare_L4 := fine_loop sh_club_isSquare_L4 (LP_club_isSquare_L4 NN) (by kernel_rfl) ct_club_isSquare (cuts0 (fun _ => rfl) (by kernel_rfl)) (fun ps R K => by unfold LP_club_isSquare_L4; split <;> (try unfold club_isSquare_L4) <;> rfl) (s_club_isSquare_L4 NN)
theorem sm_club_isSquare (g : Nat) : Same (SS_club_isSquare (@club_isSquare_ g)) (abody (E_club_isSquare g) Tryz.f89 code_89 0 [] [.asis] g) := by intro args; unfold SS_club_isSquare; split; exact .inr fun R k => (by kernel_rfl); exact .inl fun R k => rfl
theorem ok_club_isSquare [Fuel] : Ok 89 (SS_club_isSquare (@club_isSquare _)) := okF_of std .nil ⟨rfl, rfl, by kernel_rfl, rfl, rfl, rfl⟩ (sm_club_isSquare NN) (cutsL (fun _ => rfl) (.cons lf_club_isSquare_L4 .nil) (by kernel_rfl)) Tryz.func89 (by kernel_rfl) (by kernel_rfl)
abbrev T_club_isLocator : Type 1 := List UInt8 → {R : Type} → (Bool → Option R) → Option R
structure C_club_isLocator where
 N : Nat
 club_isSquare : T_club_isSquare
def club_isLocator_ (g : C_club_isLocator) (a1 : List UInt8) {R : Type} (k0 : Bool → Option R) : Option R :=
 (bif ((a1.length : Int) == 6) then (g.club_isSquare a1 (fun r2 => k0 r2)) else k0 false)
noncomputable def I_club_isLocator [Fuel] : C_club_isLocator := ⟨NN, @club_isSquare _⟩
noncomputable def club_isLocator [Fuel] : T_club_isLocator := @club_isLocator_ I_club_isLocator
def SS_club_isLocator (g : T_club_isLocator) : Spec A := fun args => match args with | [.d (.str a1)] => fun k => g a1 (fun z0 => k (.d (.bool z0)) [.undef]) | _ => fun _ => none
noncomputable def code_53 : Code := (Tryz.f53.body).getD .skip
noncomputable def E_club_isLocator (g : C_club_isLocator) : Env A := mkE [(89, SS_club_isSquare g.club_isSquare)] [] [] [] [] [] [] [] [] []
theorem sm_club_isLocator (g : C_club_isLocator) : Same (SS_club_isLocator (@club_isLocator_ g)) (abody (E_club_isLocator g) Tryz.f53 code_53 0 [] [.asis] g.N) := by intro args; unfold SS_club_isLocator; split; exact .inr fun R k => (by kernel_rfl); exact .inl fun R k => rfl
theorem ok_club_isLocator [Fuel] : Ok 53 (SS_club_isLocator (@club_isLocator _)) := okF_of std (.cons ok_club_isSquare .nil) ⟨rfl, rfl, by kernel_rfl, rfl, rfl, rfl⟩ (sm_club_isLocator I_club_isLocator) (cuts0 (fun _ => rfl) (by kernel_rfl)) Tryz.func53 (by kernel_rfl) (by kernel_rfl)
abbrev T_club_CheckEntrants : Type 1 := List G_Entrant → {R : Type} → (Int → Option R) → Option R
structure C_club_CheckEntrants where
 N : Nat
 kit_IsKey : T_kit_IsKey
 kit_Outside : T_kit_Outside
 call_Is : T_call_Is
 club_isLocator : T_club_isLocator
 cmp_Or__int : T_cmp_Or__int
 strings_Compare : T_strings_Compare
def club_CheckEntrants_L4 (g : C_club_CheckEntrants) : Nat → List G_Entrant → List G_Entrant → Int → Int → {R : Type} → (Int → Option R) → Option R → Option R
 | 0, _, _, _, _, _, _, _ => none
 | n + 1, v2, v3, v4, v5, _, e0, e1 => (bif (decide (v5 < v4)) then (get_ v3 v5 fun x21 => (g.call_Is x21.f_Call (fun r22 => (bif (!r22) then e0 3 else (g.kit_IsKey x21.f_Category (fun r23 => (bif (!r23) then e0 5 else (g.kit_Outside x21.f_Points 0 1000000000000 (fun r24 => (bif r24 then e0 1 else (bif (!(x21.f_Locator == [])) then (g.club_isLocator x21.f_Locator (fun r25 => (bif (!r25) then e0 3 else (bif (decide (v5 > 0)) then (get_ v2 (w64 (v5 - 1)) fun x26 => (get_ v2 (w64 (v5 - 1)) fun x27 => (g.strings_Compare x26.f_Category x21.f_Category (fun r28 => (g.strings_Compare x27.f_Call x21.f_Call (fun r29 => (g.cmp_Or__int [r28, r29] (fun r30 => (bif (decide (r30 ≥ 0)) then e0 7 else club_CheckEntrants_L4 g n v2 v3 v4 (w64 (v5 + 1)) e0 e1))))))))) else club_CheckEntrants_L4 g n v2 v3 v4 (w64 (v5 + 1)) e0 e1)))) else (bif (decide (v5 > 0)) then (get_ v2 (w64 (v5 - 1)) fun x31 => (get_ v2 (w64 (v5 - 1)) fun x32 => (g.strings_Compare x31.f_Category x21.f_Category (fun r33 => (g.strings_Compare x32.f_Call x21.f_Call (fun r34 => (g.cmp_Or__int [r33, r34] (fun r35 => (bif (decide (r35 ≥ 0)) then e0 7 else club_CheckEntrants_L4 g n v2 v3 v4 (w64 (v5 + 1)) e0 e1))))))))) else club_CheckEntrants_L4 g n v2 v3 v4 (w64 (v5 + 1)) e0 e1)))))))))))) else e1)
def club_CheckEntrants_ (g : C_club_CheckEntrants) (a1 : List G_Entrant) {R : Type} (k0 : Int → Option R) : Option R :=
 (bif (decide ((a1.length : Int) > 500)) then k0 2 else (club_CheckEntrants_L4 g g.N a1 a1 (a1.length : Int) 0 (fun e36 => k0 e36) (k0 0)))
noncomputable def I_club_CheckEntrants [Fuel] : C_club_CheckEntrants := ⟨NN, @kit_IsKey _, @kit_Outside _, @call_Is _, @club_isLocator _, @cmp_Or__int _, @strings_Compare _⟩
noncomputable def club_CheckEntrants [Fuel] : T_club_CheckEntrants := @club_CheckEntrants_ I_club_CheckEntrants
def SS_club_CheckEntrants (g : T_club_CheckEntrants) : Spec A := fun args => match args with | [.d (.sl 58 a1)] => fun k => g a1 (fun z0 => k (.d (.int .i64 z0)) [.undef]) | _ => fun _ => none
def sh_club_CheckEntrants_L4 : SSt := mkSh 66 2 [(0, .sl 58), (8, .sl 58), (9, .int .i64), (10, .int .i64)] []
def LP_club_CheckEntrants_L4 (g : C_club_CheckEntrants) (n : Nat) : LPT A := fun ps => match ps with | [.d (.sl 58 p1), .d (.sl 58 p2), .d (.int .i64 p3), .d (.int .i64 p4)] => fun K => club_CheckEntrants_L4 g n p1 p2 p3 p4 (fun z0 => K .ret (mkSt 66 2 [(2, .d (.int .i64 z0))] [])) (K (.exit 0) (mkSt 66 2 [] [])) | _ => fun _ => none
noncomputable def code_27 : Code := (Tryz.f27.body).getD .skip
noncomputable def E_club_CheckEntrants (g : C_club_CheckEntrants) : Env A := mkE [(28, SS_kit_IsKey g.kit_IsKey), (36, SS_kit_Outside g.kit_Outside), (52, SS_call_Is g.call_Is), (53, SS_club_isLocator g.club_isLocator), (54, SS_cmp_Or__int g.cmp_Or__int), (55, SS_strings_Compare g.strings_Compare)] [(4, [0]), (61, [1])] [(4, ⟨[0, 8, 9, 10], [], [], [], [], []⟩)] [(4, ⟨[2], [], [], [], [], []⟩)] [(4, pieceOf sh_club_CheckEntrants_L4 (LP_club_CheckEntrants_L4 g g.N))] [] [] [] [] []
theorem ct_club_CheckEntrants [Fuel] : NatTab (E_club_CheckEntrants I_club_CheckEntrants).C := ct_of (P := Tryz.prog) (T := T) (.cons ok_kit_IsKey (.cons ok_kit_Outside (.cons ok_call_Is (.cons ok_club_isLocator (.cons ok_cmp_Or__int (.cons ok_strings_Compare .nil)))))) (by kernel_rfl)
noncomputable def cb_club_CheckEntrants_L4 : Code := sub [1, 1, 0, 1, 0, 0] code_27
theorem s_club_CheckEntrants_L4 (g : C_club_CheckEntrants) (n : Nat) : StepOk (E_club_CheckEntrants g) g.N cb_club_CheckEntrants_L4 sh_club_CheckEntrants_L4 (LP_club_CheckEntrants_L4 g) n := by intro ps; unfold LP_club_CheckEntrants_L4; split; exact .inr fun R K => (by kernel_rfl); exact .inl fun R K => rfl
theorem lf_club_CheckEntrants_L4 [Fuel] : LoopFine (E_club_CheckEntrants I_club_CheckEntrants) NN cb_club_CheckEntrants_L4 := fine_loop sh_club_CheckEntrants_L4 (LP_club_CheckEntrants_L4 I_club_CheckEntrants) (by kernel_rfl) ct_club_CheckEntrants (cuts0 (fun _ => rfl) (by kernel_rfl)) (fun ps R K => by unfold LP_club_CheckEntrants_L4; split <;> (try unfold club_CheckEntrants_L4) <;> rfl) (s_club_CheckEntrants_L4 I_club_CheckEntrants)
theorem sm_club_CheckEntrants (g : C_club_CheckEntrants) : Same (SS_club_CheckEntrants (@club_CheckEntrants_ g)) (abody (E_club_CheckEntrants g) Tryz.f27 code_27 2 [] [.asis] g.N) := by intro args; unfold SS_club_CheckEntrants; split; exact .inr fun R k => (by kernel_rfl); exact .inl fun R k => rfl
theorem ok_club_CheckEntrants [Fuel] : Ok 27 (SS_club_CheckEntrants (@club_CheckEntrants _)) := okF_of std (.cons ok_kit_IsKey (.cons ok_kit_Outside (.cons ok_call_Is (.cons ok_club_isLocator (.cons ok_cmp_Or__int (.cons ok_strings_Compare .nil)))))) ⟨rfl, rfl, by kernel_rfl, rfl, rfl, rfl⟩ (sm_club_CheckEntrants I_club_CheckEntrants) (cutsL (fun _ => rfl) (.cons lf_club_CheckEntrants_L4 .nil) (by kernel_rfl)) Tryz.func27 (by kernel_rfl) (by kernel_rfl)
abbrev T_club_ranked_1 : Type 1 := G_Place → G_Place → {R : Type} → (Int → Option R) → Option R
structure C_club_ranked_1 where
 N : Nat
 cmp_Or__int : T_cmp_Or__int
 strings_Compare : T_strings_Compare
 cmp_Compare__int : T_cmp_Compare__int
def club_ranked_1_ (g : C_club_ranked_1) (a1 a2 : G_Place) {R : Type} (k0 : Int → Option R) : Option R :=
 (g.cmp_Compare__int a2.f_Points a1.f_Points (fun r3 => (g.strings_Compare a1.f_Key a2.f_Key (fun r4 => (g.cmp_Or__int [r3, r4] (fun r5 => k0 r5))))))
noncomputable def I_club_ranked_1 [Fuel] : C_club_ranked_1 := ⟨NN, @cmp_Or__int _, @strings_Compare _, @cmp_Compare__int _⟩
noncomputable def club_ranked_1 [Fuel] : T_club_ranked_1 := @club_ranked_1_ I_club_ranked_1
def SS_club_ranked_1 (g : T_club_ranked_1) : Spec A := fun args => match args with | [.agg [.d (.int .i64 a1), .d (.int .i64 a2), .d (.str a3)], .agg [.d (.int .i64 a4), .d (.int .i64 a5), .d (.str a6)]] => fun k => g ⟨a1, a2, a3⟩ ⟨a4, a5, a6⟩ (fun z0 => k (.d (.int .i64 z0)) [.undef, .undef]) | _ => fun _ => none
noncomputable def code_59 : Code := (Tryz.f59.body).getD .skip
noncomputable def E_club_ranked_1 (g : C_club_ranked_1) : Env A := mkE [(54, SS_cmp_Or__int g.cmp_Or__int), (55, SS_strings_Compare g.strings_Compare), (60, SS_cmp_Compare__int g.cmp_Compare__int)] [(2, [0]), (3, [1]), (15, [2])] [] [] [] [] [] [] [] []
theorem sm_club_ranked_1 (g : C_club_ranked_1) : Same (SS_club_ranked_1 (@club_ranked_1_ g)) (abody (E_club_ranked_1 g) Tryz.f59 code_59 3 [] [.asis] g.N) := by intro args; unfold SS_club_ranked_1; split; exact .inr fun R k => (by kernel_rfl); exact .inl fun R k => rfl
theorem ok_club_ranked_1 [Fuel] : Ok 59 (SS_club_ranked_1 (@club_ranked_1 _)) := okF_of std (.cons ok_cmp_Or__int (.cons ok_strings_Compare (.cons ok_cmp_Compare__int .nil))) ⟨rfl, rfl, by kernel_rfl, rfl, rfl, rfl⟩ (sm_club_ranked_1 I_club_ranked_1) (cuts0 (fun _ => rfl) (by kernel_rfl)) Tryz.func59 (by kernel_rfl) (by kernel_rfl)
noncomputable def Ed_club_ranked_1 (g : C_club_ranked_1) : Env A := mkED [(54, SS_cmp_Or__int g.cmp_Or__int), (55, SS_strings_Compare g.strings_Compare), (60, SS_cmp_Compare__int g.cmp_Compare__int)] [(2, [0]), (3, [1]), (15, [2])] [] [] [] [] [] [] [] []
theorem smd_club_ranked_1 (g : C_club_ranked_1) : Same (SS_club_ranked_1 (@club_ranked_1_ g)) (abody (Ed_club_ranked_1 g) Tryz.f59 code_59 3 [] [.asis] g.N) := by intro args; unfold SS_club_ranked_1; split; exact .inr fun R k => (by kernel_rfl); exact .inl fun R k => rfl
theorem okd_club_ranked_1 [Fuel] : OkD 59 (SS_club_ranked_1 (@club_ranked_1 _)) := okF_of stdD (.cons okd_cmp_Or__int (.cons okd_strings_Compare (.cons okd_cmp_Compare__int .nil))) ⟨rfl, rfl, by kernel_rfl, rfl, rfl, rfl⟩ (smd_club_ranked_1 I_club_ranked_1) (cuts0 (fun _ => rfl) (by kernel_rfl)) Tryz.func59 (by kernel_rfl) (by kernel_rfl)
abbrev T_slices_SortFunc__Place_club_ranked_1 : Type 1 := List G_Place → {R : Type} → (List G_Place → Option R) → Option R
noncomputable def slices_SortFunc__Place_club_ranked_1 [Fuel] : T_slices_SortFunc__Place_club_ranked_1 := @X_sortf G_Place (@club_ranked_1 _)
def SS_slices_SortFunc__Place_club_ranked_1 (g : T_slices_SortFunc__Place_club_ranked_1) : Spec A := fun args => match args with | [.arr 35 a1, .fn 59 []] => fun k => g a1 (fun z => k (.tup []) [.arr 35 z, .fn 59 []]) | _ => fun _ => none
theorem h1_slices_SortFunc__Place_club_ranked_1 [Fuel] (xs : List (A 35)) (R : Type) (k : IV A → List (IV A) → Option R) : SS_slices_SortFunc__Place_club_ranked_1 (@slices_SortFunc__Place_club_ranked_1 _) [.arr 35 xs, .fn 59 []] k = X_sortf (α := A 35) (@club_ranked_1 _) xs (fun z => k (.tup []) [.arr 35 z, .fn 59 []]) := by kernel_rfl
theorem h2_slices_SortFunc__Place_club_ranked_1 [Fuel] (args : List (IV A)) (R : Type) (k : IV A → List (IV A) → Option R) (h : ∀ xs : List (A 35), args ≠ [.arr 35 xs, .fn 59 []]) : SS_slices_SortFunc__Place_club_ranked_1 (@slices_SortFunc__Place_club_ranked_1 _) args k = none := by unfold SS_slices_SortFunc__Place_club_ranked_1; split; exact absurd rfl (h _); rfl
theorem hc_slices_SortFunc__Place_club_ranked_1 [Fuel] (x y : A 35) (R : Type) (k : Int → Option R) : callOf T (SS_club_ranked_1 (@club_ranked_1 _)) 35 x y k = @club_ranked_1 _ x y R k := by kernel_rfl
theorem hs_slices_SortFunc__Place_club_ranked_1 (x : G_Place) : (enc_e35 x).all scal = true := rfl
theorem ok_slices_SortFunc__Place_club_ranked_1 [Fuel] : Ok 58 (SS_slices_SortFunc__Place_club_ranked_1 (@slices_SortFunc__Place_club_ranked_1 _)) := ⟨sortf_sound (tyOk Tryz.prog) (e := 35) Tryz.sortf58 Tryz.isAgg35 Tryz.sizeOf35 (fun x d hd => List.all_eq_true.1 (hs_slices_SortFunc__Place_club_ranked_1 x) d hd) hc_slices_SortFunc__Place_club_ranked_1 okd_club_ranked_1.fs okd_club_ranked_1.en h1_slices_SortFunc__Place_club_ranked_1 h2_slices_SortFunc__Place_club_ranked_1, sortf_na (e := 35) h1_slices_SortFunc__Place_club_ranked_1 h2_slices_SortFunc__Place_club_ranked_1, enters_of (fn := Tryz.f58) Tryz.func58 (by kernel_rfl) (by kernel_rfl)⟩
abbrev T_club_ranked : Type 1 := List G_Place → {R : Type} → (List G_Place → Option R) → Option R
structure C_club_ranked where
 N : Nat
 slices_SortFunc__Place_club_ranked_1 : T_slices_SortFunc__Place_club_ranked_1
def club_ranked_L3 (g : C_club_ranked) : Nat → Int → Int → List G_Place → {R : Type} → (List G_Place → Option R) → Option R
 | 0, _, _, _, _, _ => none
 | n + 1, v3, v4, v5, _, e0 => (bif (decide (v4 < v3)) then (inr v5 v4 (at_ v5 v4 fun x11 => (bif (decide (v4 > 0)) then (inr (set_ v5 v4 (⟨(w64 (v4 + 1)), x11.f_Points, x11.f_Key⟩ : G_Place)) v4 (at_ (set_ v5 v4 (⟨(w64 (v4 + 1)), x11.f_Points, x11.f_Key⟩ : G_Place)) v4 fun x12 => (inr (set_ v5 v4 (⟨(w64 (v4 + 1)), x11.f_Points, x11.f_Key⟩ : G_Place)) (w64 (v4 - 1)) (at_ (set_ v5 v4 (⟨(w64 (v4 + 1)), x11.f_Points, x11.f_Key⟩ : G_Place)) (w64 (v4 - 1)) fun x13 => (bif (x12.f_Points == x13.f_Points) then (inr (set_ v5 v4 (⟨(w64 (v4 + 1)), x11.f_Points, x11.f_Key⟩ : G_Place)) (w64 (v4 - 1)) (at_ (set_ v5 v4 (⟨(w64 (v4 + 1)), x11.f_Points, x11.f_Key⟩ : G_Place)) (w64 (v4 - 1)) fun x14 => (inr (set_ v5 v4 (⟨(w64 (v4 + 1)), x11.f_Points, x11.f_Key⟩ : G_Place)) v4 (at_ (set_ v5 v4 (⟨(w64 (v4 + 1)), x11.f_Points, x11.f_Key⟩ : G_Place)) v4 fun x15 => club_ranked_L3 g n v3 (w64 (v4 + 1)) (set_ (set_ v5 v4 (⟨(w64 (v4 + 1)), x11.f_Points, x11.f_Key⟩ : G_Place)) v4 (⟨x14.f_Rank, x15.f_Points, x15.f_Key⟩ : G_Place)) e0)))) else club_ranked_L3 g n v3 (w64 (v4 + 1)) (set_ v5 v4 (⟨(w64 (v4 + 1)), x11.f_Points, x11.f_Key⟩ : G_Place)) e0))))) else club_ranked_L3 g n v3 (w64 (v4 + 1)) (set_ v5 v4 (⟨(w64 (v4 + 1)), x11.f_Points, x11.f_Key⟩ : G_Place)) e0))) else e0 v5)
def club_ranked_ (g : C_club_ranked) (a1 : List G_Place) {R : Type} (k0 : List G_Place → Option R) : Option R :=
 (g.slices_SortFunc__Place_club_ranked_1 a1 (fun r2 => (club_ranked_L3 g g.N (r2.length : Int) 0 r2 (fun e16 => k0 e16))))
noncomputable def I_club_ranked [Fuel] : C_club_ranked := ⟨NN, @slices_SortFunc__Place_club_ranked_1 _⟩
noncomputable def club_ranked [Fuel] : T_club_ranked := @club_ranked_ I_club_ranked
def SS_club_ranked (g : T_club_ranked) : Spec A := fun args => match args with | [.arr 35 a1] => fun k => g a1 (fun z0 => k (.arr 35 z0) [.undef]) | _ => fun _ => none
def sh_club_ranked_L3 : SSt := mkSh 45 1 [(0, .own 35 0), (7, .int .i64), (8, .int .i64)] [(0, .row 35)]
def LP_club_ranked_L3 (g : C_club_ranked) (n : Nat) : LPT A := fun ps => match ps with | [.d (.int .i64 p1), .d (.int .i64 p2), .d (.sl 35 p3)] => fun K => club_ranked_L3 g n p1 p2 p3 (fun z0 => K (.exit 0) (mkSt 45 1 [(0, .own 35 0)] [(0, some (.row 35 z0))])) | _ => fun _ => none
noncomputable def code_29 : Code := (Tryz.f29.body).getD .skip
noncomputable def E_club_ranked (g : C_club_ranked) : Env A := mkE [(58, SS_slices_SortFunc__Place_club_ranked_1 g.slices_SortFunc__Place_club_ranked_1)] [] [(3, ⟨[0, 7, 8], [], [0], [], [], []⟩)] [(3, ⟨[0], [], [0], [], [], []⟩)] [(3, pieceOf sh_club_ranked_L3 (LP_club_ranked_L3 g g.N))] [] [] [] [(58, 0)] []
theorem ct_club_ranked [Fuel] : NatTab (E_club_ranked I_club_ranked).C := ct_of (P := Tryz.prog) (T := T) (.cons ok_slices_SortFunc__Place_club_ranked_1 .nil) (by kernel_rfl)
noncomputable def cb_club_ranked_L3 : Code := sub [1, 1, 0, 1, 0, 0] code_29
theorem s_club_ranked_L3 (g : C_club_ranked) (n : Nat) : StepOk (E_club_ranked g) g.N cb_club_ranked_L3 sh_club_ranked_L3 (LP_club_ranked_L3 g) n := by intro ps; unfold LP_club_ranked_L3; split; exact .inr fun R K => (by kernel_rfl); exact .inl fun R K => rfl
theorem lf_club_ranked_L3 [Fuel] : LoopFine (E_club_ranked I_club_ranked) NN cb_club_ranked_L3 := fine_loop sh_club_ranked_L3 (LP_club_ranked_L3 I_club_ranked) (by kernel_rfl) ct_club_ranked (cuts0 (fun _ => rfl) (by kernel_rfl)) (fun ps R K => by unfold LP_club_ranked_L3; split <;> (try unfold club_ranked_L3) <;> rfl) (s_club_ranked_L3 I_club_ranked)
theorem sm_club_ranked (g : C_club_ranked) : Same (SS_club_ranked (@club_ranked_ g)) (abody (E_club_ranked g) Tryz.f29 code_29 1 [0] [.arr 35] g.N) := by intro args; unfold SS_club_ranked; split; exact .inr fun R k => (by kernel_rfl); exact .inl fun R k => rfl
theorem ok_club_ranked [Fuel] : Ok 29 (SS_club_ranked (@club_ranked _)) := okF_of std (.cons ok_slices_SortFunc__Place_club_ranked_1 .nil) ⟨rfl, rfl, by kernel_rfl, rfl, rfl, rfl⟩ (sm_club_ranked I_club_ranked) (cutsL (fun _ => rfl) (.cons lf_club_ranked_L3 .nil) (by kernel_rfl)) Tryz.func29 (by kernel_rfl) (by kernel_rfl)
abbrev T_club_Table : Type 1 := List G_Entrant → List UInt8 → {R : Type} → (List G_Place → Int → Option R) → Option R
structure C_club_Table where
 N : Nat
 club_CheckEntrants : T_club_CheckEntrants
 kit_IsKey : T_kit_IsKey
 club_ranked : T_club_ranked
def club_Table_L8 (g : C_club_Table) : Nat → List UInt8 → List G_Entrant → Int → Int → List G_Place → {R : Type} → (List G_Place → Option R) → Option R
 | 0, _, _, _, _, _, _, _ => none
 | n + 1, v5, v6, v7, v8, v9, _, e0 => (bif (decide (v8 < v7)) then (get_ v6 v8 fun x11 => (bif (x11.f_Category == v5) then (bif (decide ((v9.length + [(⟨0, x11.f_Points, x11.f_Call⟩ : G_Place)].length) * 32 ≤ roomBytes')) then club_Table_L8 g n v5 v6 v7 (w64 (v8 + 1)) (v9 ++ [(⟨0, x11.f_Points, x11.f_Call⟩ : G_Place)]) e0 else none) else club_Table_L8 g n v5 v6 v7 (w64 (v8 + 1)) v9 e0)) else e0 v9)
def club_Table_ (g : C_club_Table) (a1 : List G_Entrant) (a2 : List UInt8) {R : Type} (k0 : List G_Place → Int → Option R) : Option R :=
 (g.club_CheckEntrants a1 (fun r3 => (bif (r3 != 0) then k0 [] r3 else (g.kit_IsKey a2 (fun r4 => (bif (!r4) then k0 [] 5 else (club_Table_L8 g g.N a2 a1 (a1.length : Int) 0 [] (fun e12 => (g.club_ranked e12 (fun r13 => k0 r13 0))))))))))
noncomputable def I_club_Table [Fuel] : C_club_Table := ⟨NN, @club_CheckEntrants _, @kit_IsKey _, @club_ranked _⟩
noncomputable def club_Table [Fuel] : T_club_Table := @club_Table_ I_club_Table
def SS_club_Table (g : T_club_Table) : Spec A := fun args => match args with | [.d (.sl 58 a1), .d (.str a2)] => fun k => g a1 a2 (fun z0 z1 => k (.tup [.arr 35 z0, .d (.int .i64 z1)]) [.undef, .undef]) | _ => fun _ => none
def sh_club_Table_L8 : SSt := mkSh 39 5 [(1, .str), (7, .own 35 0), (18, .sl 58), (19, .int .i64), (20, .int .i64)] [(0, .row 35)]
def LP_club_Table_L8 (g : C_club_Table) (n : Nat) : LPT A := fun ps => match ps with | [.d (.str p1), .d (.sl 58 p2), .d (.int .i64 p3), .d (.int .i64 p4), .d (.sl 35 p5)] => fun K => club_Table_L8 g n p1 p2 p3 p4 p5 (fun z0 => K (.exit 0) (mkSt 39 5 [(7, .own 35 0)] [(0, some (.row 35 z0))])) | _ => fun _ => none
noncomputable def code_8 : Code := (Tryz.f8.body).getD .skip
noncomputable def E_club_Table (g : C_club_Table) : Env A := mkE [(27, SS_club_CheckEntrants g.club_CheckEntrants), (28, SS_kit_IsKey g.kit_IsKey), (29, SS_club_ranked g.club_ranked)] [(9, [1]), (34, [2]), (35, [3]), (38, [4])] [(8, ⟨[1, 7, 18, 19, 20], [(7, 35, 0)], [], [], [], []⟩)] [(8, ⟨[7], [], [0], [], [], []⟩)] [(8, pieceOf sh_club_Table_L8 (LP_club_Table_L8 g g.N))] [] [] [] [(29, 0)] []
theorem ct_club_Table [Fuel] : NatTab (E_club_Table I_club_Table).C := ct_of (P := Tryz.prog) (T := T) (.cons ok_club_CheckEntrants (.cons ok_kit_IsKey (.cons ok_club_ranked .nil))) (by kernel_rfl)
noncomputable def cb_club_Table_L8 : Code := sub [1, 1, 1, 1, 0, 1, 0, 0] code_8
theorem s_club_Table_L8 (g : C_club_Table) (n : Nat) : StepOk (E_club_Table g) g.N cb_club_Table_L8 sh_club_Table_L8 (LP_club_Table_L8 g) n := by intro ps; unfold LP_club_Table_L8; split; exact .inr fun R K => (by kernel_rfl); exact .inl fun R K => rfl
theorem lf_club_Table_L8 [Fuel] : LoopFine (E_club_Table I_club_Table) NN cb_club_Table_L8 := fine_loop sh_club_Table_L8 (LP_club_Table_L8 I_club_Table) (by kernel_rfl) ct_club_Table (cuts0 (fun _ => rfl) (by kernel_rfl)) (fun ps R K => by unfold LP_club_Table_L8; split <;> (try unfold club_Table_L8) <;> rfl) (s_club_Table_L8 I_club_Table)
theorem sm_club_Table (g : C_club_Table) : Same (SS_club_Table (@club_Table_ g)) (abody (E_club_Table g) Tryz.f8 code_8 5 [] [.arr 35, .asis] g.N) := by intro args; unfold SS_club_Table; split; exact .inr fun R k => (by kernel_rfl); exact .inl fun R k => rfl
theorem ok_club_Table [Fuel] : Ok 8 (SS_club_Table (@club_Table _)) := okF_of std (.cons ok_club_CheckEntrants (.cons ok_kit_IsKey (.cons ok_club_ranked .nil))) ⟨rfl, rfl, by kernel_rfl, rfl, rfl, rfl⟩ (sm_club_Table I_club_Table) (cutsL (fun _ => rfl) (.cons lf_club_Table_L8 .nil) (by kernel_rfl)) Tryz.func8 (by kernel_rfl) (by kernel_rfl)
abbrev T_net_logFault : Type 1 := G_Deed → {R : Type} → (Int → Option R) → Option R
structure C_net_logFault where
 N : Nat
 log_CheckContact : T_log_CheckContact
def net_logFault_ (g : C_net_logFault) (a1 : G_Deed) {R : Type} (k0 : Int → Option R) : Option R :=
 (g.log_CheckContact a1.f_Contact (fun r2 => (bif (r2 != 0) then k0 r2 else (bif (decide (a1.f_Contact.f_At > a1.f_At)) then k0 1 else k0 0))))
noncomputable def I_net_logFault [Fuel] : C_net_logFault := ⟨NN, @log_CheckContact _⟩
noncomputable def net_logFault [Fuel] : T_net_logFault := @net_logFault_ I_net_logFault
def SS_net_logFault (g : T_net_logFault) : Spec A := fun args => match args with | [.agg [.d (.str a1), .d (.int .i64 a2), .d (.int .i64 a3), .d (.int .i64 a4), .d (.int .i64 a5), .d (.int .i64 a6), .d (.str a7), .d (.str a8), .d (.int .i64 a9), .d (.int .i64 a10), .d (.str a11), .d (.str a12), .d (.str a13), .d (.str a14), .d (.int .i64 a15)]] => fun k => g ⟨a1, a2, a3, a4, ⟨a5, a6, a7, a8, a9, a10, a11, a12⟩, a13, a14, a15⟩ (fun z0 => k (.d (.int .i64 z0)) [.undef]) | _ => fun _ => none
noncomputable def code_191 : Code := (Tryz.f191.body).getD .skip
noncomputable def E_net_logFault (g : C_net_logFault) : Env A := mkE [(68, SS_log_CheckContact g.log_CheckContact)] [(1, [0])] [] [] [] [] [] [] [] []
theorem sm_net_logFault (g : C_net_logFault) : Same (SS_net_logFault (@net_logFault_ g)) (abody (E_net_logFault g) Tryz.f191 code_191 1 [] [.asis] g.N) := by intro args; unfold SS_net_logFault; split; exact .inr fun R k => (by kernel_rfl); exact .inl fun R k => rfl
theorem ok_net_logFault [Fuel] : Ok 191 (SS_net_logFault (@net_logFault _)) := okF_of std (.cons ok_log_CheckContact .nil) ⟨rfl, rfl, by kernel_rfl, rfl, rfl, rfl⟩ (sm_net_logFault I_net_logFault) (cuts0 (fun _ => rfl) (by kernel_rfl)) Tryz.func191 (by kernel_rfl) (by kernel_rfl)
end Go.Am
