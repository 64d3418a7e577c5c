/- The functions of the program as Lean functions, each shown to be what the code computes, part 6. No condition: lemmas for the claim. -/
import Derived.Test.YtancmpgebeiiaaaGreatDoorF0
import Derived.Test.YtancmpgebeiiaaaGreatDoorFSh
import Derived.Test.YtancmpgebeiiaaaGreatDoorF1
import Derived.Test.YtancmpgebeiiaaaGreatDoorF3
import Derived.Test.YtancmpgebeiiaaaGreatDoorF4
import Derived.Test.YtancmpgebeiiaaaGreatDoorF5
set_option linter.unusedVariables false
set_option maxRecDepth 100000
namespace Go.Am
open Go Go.Proofs
abbrev T_slices_Index__int : Type 1 := List Int → Int → {R : Type} → (Int → Option R) → Option R
def slices_Index__int_L2 (g : Nat) : Nat → List Int → Int → Int → Int → {R : Type} → (Int → Option R) → Option R → Option R
 | 0, _, _, _, _, _, _, _ => none
 | n + 1, v3, v4, v5, v6, _, e0, e1 => (bif (decide (v6 < v5)) then (get_ v3 v6 fun x8 => (bif (v4 == x8) then e0 v6 else slices_Index__int_L2 g n v3 v4 v5 (w64 (v6 + 1)) e0 e1)) else e1)
def slices_Index__int_ (g : Nat) (a1 : List Int) (a2 : Int) {R : Type} (k0 : Int → Option R) : Option R :=
 (slices_Index__int_L2 g g a1 a2 (a1.length : Int) 0 (fun e9 => k0 e9) (k0 (-1)))
noncomputable def slices_Index__int [Fuel] : T_slices_Index__int := @slices_Index__int_ NN
def SS_slices_Index__int (g : T_slices_Index__int) : Spec A := fun args => match args with | [.d (.sl 3 a1), .d (.int .i64 a2)] => fun k => g a1 a2 (fun z0 => k (.d (.int .i64 z0)) [.undef, .undef]) | _ => fun _ => none
def sh_slices_Index__int_L2 : SSt := mkSh 19 0 [(0, .sl 3), (1, .int .i64), (7, .int .i64), (8, .int .i64)] []
def LP_slices_Index__int_L2 (g : Nat) (n : Nat) : LPT A := fun ps => match ps with | [.d (.sl 3 p1), .d (.int .i64 p2), .d (.int .i64 p3), .d (.int .i64 p4)] => fun K => slices_Index__int_L2 g n p1 p2 p3 p4 (fun z0 => K .ret (mkSt 19 0 [(4, .d (.int .i64 z0))] [])) (K (.exit 0) (mkSt 19 0 [] [])) | _ => fun _ => none
noncomputable def code_94 : Code := (Tryz.f94.body).getD .skip
noncomputable def E_slices_Index__int (g : Nat) : Env A := mkE [] [] [(2, ⟨[0, 1, 7, 8], [], [], []⟩)] [(2, ⟨[4], [], [], []⟩)] [(2, pieceOf sh_slices_Index__int_L2 (LP_slices_Index__int_L2 g g))] [] [] [] [] []
theorem ct_slices_Index__int [Fuel] : NatTab (E_slices_Index__int NN).C := ct_of (P := Tryz.prog) (T := T) .nil (by kernel_rfl)
noncomputable def cb_slices_Index__int_L2 : Code := sub [1, 0, 1, 0, 0] code_94
theorem s_slices_Index__int_L2 (g : Nat) (n : Nat) : StepOk (E_slices_Index__int g) g cb_slices_Index__int_L2 sh_slices_Index__int_L2 (LP_slices_Index__int_L2 g) n := by intro ps; unfold LP_slices_Index__int_L2; split; exact .inr fun R K => (by kernel_rfl); exact .inl fun R K => rfl
theorem lf_slices_Index__int_L2 [Fuel] : LoopFine (E_slices_Index__int NN) NN cb_slices_Index__int_L2 := fine_loop sh_slices_Index__int_L2 (LP_slices_Index__int_L2 NN) (by kernel_rfl) ct_slices_Index__int (cuts0 (fun _ => rfl) (by kernel_rfl)) (fun ps R K => by unfold LP_slices_Index__int_L2; split <;> (try unfold slices_Index__int_L2) <;> rfl) (s_slices_Index__int_L2 NN)
theorem sm_slices_Index__int (g : Nat) : Same (SS_slices_Index__int (@slices_Index__int_ g)) (abody (E_slices_Index__int g) Tryz.f94 code_94 0 [] [.asis] g) := by intro args; unfold SS_slices_Index__int; split; exact .inr fun R k => (by kernel_rfl); exact .inl fun R k => rfl
theorem ok_slices_Index__int [Fuel] : Ok 94 (SS_slices_Index__int (@slices_Index__int _)) := okF_of std .nil ⟨rfl, rfl, by kernel_rfl, rfl, rfl, rfl⟩ (sm_slices_Index__int NN) (cutsL (fun _ => rfl) (.cons lf_slices_Index__int_L2 .nil) (by kernel_rfl)) Tryz.func94 (by kernel_rfl) (by kernel_rfl)
abbrev T_slices_Contains__int : Type 1 := List Int → Int → {R : Type} → (Bool → Option R) → Option R
structure C_slices_Contains__int where
 N : Nat
 slices_Index__int : T_slices_Index__int
def slices_Contains__int_ (g : C_slices_Contains__int) (a1 : List Int) (a2 : Int) {R : Type} (k0 : Bool → Option R) : Option R :=
 (g.slices_Index__int a1 a2 (fun r3 => k0 (decide (r3 ≥ 0))))
noncomputable def I_slices_Contains__int [Fuel] : C_slices_Contains__int := ⟨NN, @slices_Index__int _⟩
noncomputable def slices_Contains__int [Fuel] : T_slices_Contains__int := @slices_Contains__int_ I_slices_Contains__int
def SS_slices_Contains__int (g : T_slices_Contains__int) : Spec A := fun args => match args with | [.d (.sl 3 a1), .d (.int .i64 a2)] => fun k => g a1 a2 (fun z0 => k (.d (.bool z0)) [.undef, .undef]) | _ => fun _ => none
noncomputable def code_70 : Code := (Tryz.f70.body).getD .skip
noncomputable def E_slices_Contains__int (g : C_slices_Contains__int) : Env A := mkE [(94, SS_slices_Index__int g.slices_Index__int)] [] [] [] [] [] [] [] [] []
theorem sm_slices_Contains__int (g : C_slices_Contains__int) : Same (SS_slices_Contains__int (@slices_Contains__int_ g)) (abody (E_slices_Contains__int g) Tryz.f70 code_70 0 [] [.asis] g.N) := by intro args; unfold SS_slices_Contains__int; split; exact .inr fun R k => (by kernel_rfl); exact .inl fun R k => rfl
theorem ok_slices_Contains__int [Fuel] : Ok 70 (SS_slices_Contains__int (@slices_Contains__int _)) := okF_of std (.cons ok_slices_Index__int .nil) ⟨rfl, rfl, by kernel_rfl, rfl, rfl, rfl⟩ (sm_slices_Contains__int I_slices_Contains__int) (cuts0 (fun _ => rfl) (by kernel_rfl)) Tryz.func70 (by kernel_rfl) (by kernel_rfl)
abbrev T_band_joined_1 : Type 1 := G_Row → G_Row → {R : Type} → (Int → Option R) → Option R
def band_joined_1_ (g : Nat) (a1 a2 : G_Row) {R : Type} (k0 : Int → Option R) : Option R :=
 k0 (w64 (a1.f_From - a2.f_From))
noncomputable def band_joined_1 [Fuel] : T_band_joined_1 := @band_joined_1_ NN
def SS_band_joined_1 (g : T_band_joined_1) : Spec A := fun args => match args with | [.agg [.d (.int .i64 a1), .d (.int .i64 a2)], .agg [.d (.int .i64 a3), .d (.int .i64 a4)]] => fun k => g ⟨a1, a2⟩ ⟨a3, a4⟩ (fun z0 => k (.d (.int .i64 z0)) [.undef, .undef]) | _ => fun _ => none
noncomputable def code_96 : Code := (Tryz.f96.body).getD .skip
noncomputable def E_band_joined_1 (g : Nat) : Env A := mkE [] [(2, [0]), (3, [1])] [] [] [] [] [] [] [] []
theorem sm_band_joined_1 (g : Nat) : Same (SS_band_joined_1 (@band_joined_1_ g)) (abody (E_band_joined_1 g) Tryz.f96 code_96 2 [] [.asis] g) := by intro args; unfold SS_band_joined_1; split; exact .inr fun R k => (by kernel_rfl); exact .inl fun R k => rfl
theorem ok_band_joined_1 [Fuel] : Ok 96 (SS_band_joined_1 (@band_joined_1 _)) := okF_of std .nil ⟨rfl, rfl, by kernel_rfl, rfl, rfl, rfl⟩ (sm_band_joined_1 NN) (cuts0 (fun _ => rfl) (by kernel_rfl)) Tryz.func96 (by kernel_rfl) (by kernel_rfl)
noncomputable def Ed_band_joined_1 (g : Nat) : Env A := mkED [] [(2, [0]), (3, [1])] [] [] [] [] [] [] [] []
theorem smd_band_joined_1 (g : Nat) : Same (SS_band_joined_1 (@band_joined_1_ g)) (abody (Ed_band_joined_1 g) Tryz.f96 code_96 2 [] [.asis] g) := by intro args; unfold SS_band_joined_1; split; exact .inr fun R k => (by kernel_rfl); exact .inl fun R k => rfl
theorem okd_band_joined_1 [Fuel] : OkD 96 (SS_band_joined_1 (@band_joined_1 _)) := okF_of stdD .nil ⟨rfl, rfl, by kernel_rfl, rfl, rfl, rfl⟩ (smd_band_joined_1 NN) (cuts0 (fun _ => rfl) (by kernel_rfl)) Tryz.func96 (by kernel_rfl) (by kernel_rfl)
abbrev T_slices_SortFunc__Row_band_joined_1 : Type 1 := List G_Row → {R : Type} → (List G_Row → Option R) → Option R
noncomputable def slices_SortFunc__Row_band_joined_1 [Fuel] : T_slices_SortFunc__Row_band_joined_1 := @X_sortf G_Row (@band_joined_1 _)
def SS_slices_SortFunc__Row_band_joined_1 (g : T_slices_SortFunc__Row_band_joined_1) : Spec A := fun args => match args with | [.arr 79 a1, .fn 96 []] => fun k => g a1 (fun z => k (.tup []) [.arr 79 z, .fn 96 []]) | _ => fun _ => none
theorem h1_slices_SortFunc__Row_band_joined_1 [Fuel] (xs : List (A 79)) (R : Type) (k : IV A → List (IV A) → Option R) : SS_slices_SortFunc__Row_band_joined_1 (@slices_SortFunc__Row_band_joined_1 _) [.arr 79 xs, .fn 96 []] k = X_sortf (α := A 79) (@band_joined_1 _) xs (fun z => k (.tup []) [.arr 79 z, .fn 96 []]) := by kernel_rfl
theorem h2_slices_SortFunc__Row_band_joined_1 [Fuel] (args : List (IV A)) (R : Type) (k : IV A → List (IV A) → Option R) (h : ∀ xs : List (A 79), args ≠ [.arr 79 xs, .fn 96 []]) : SS_slices_SortFunc__Row_band_joined_1 (@slices_SortFunc__Row_band_joined_1 _) args k = none := by unfold SS_slices_SortFunc__Row_band_joined_1; split; exact absurd rfl (h _); rfl
theorem hc_slices_SortFunc__Row_band_joined_1 [Fuel] (x y : A 79) (R : Type) (k : Int → Option R) : callOf T (SS_band_joined_1 (@band_joined_1 _)) 79 x y k = @band_joined_1 _ x y R k := by kernel_rfl
theorem hs_slices_SortFunc__Row_band_joined_1 (x : G_Row) : (enc_e79 x).all scal = true := rfl
theorem ok_slices_SortFunc__Row_band_joined_1 [Fuel] : Ok 95 (SS_slices_SortFunc__Row_band_joined_1 (@slices_SortFunc__Row_band_joined_1 _)) := ⟨sortf_sound (tyOk Tryz.prog) (e := 79) Tryz.sortf95 Tryz.isAgg79 Tryz.sizeOf79 (fun x d hd => List.all_eq_true.1 (hs_slices_SortFunc__Row_band_joined_1 x) d hd) hc_slices_SortFunc__Row_band_joined_1 okd_band_joined_1.fs okd_band_joined_1.en h1_slices_SortFunc__Row_band_joined_1 h2_slices_SortFunc__Row_band_joined_1, sortf_na (e := 79) h1_slices_SortFunc__Row_band_joined_1 h2_slices_SortFunc__Row_band_joined_1, enters_of (fn := Tryz.f95) Tryz.func95 (by kernel_rfl) (by kernel_rfl)⟩
abbrev T_band_joined : Type 1 := List G_Row → {R : Type} → (List G_Row → Option R) → Option R
structure C_band_joined where
 N : Nat
 slices_SortFunc__Row_band_joined_1 : T_slices_SortFunc__Row_band_joined_1
def band_joined_L4 (g : C_band_joined) : Nat → Int → Int → List G_Row → List G_Row → {R : Type} → (List G_Row → Option R) → Option R
 | 0, _, _, _, _, _, _ => none
 | n + 1, v3, v4, v5, v6, _, e0 => (bif (decide (v4 < v3)) then (inr v5 v4 (at_ v5 v4 fun x11 => (bif (decide ((w64 ((v6.length : Int) - 1)) ≥ 0)) then (inr v6 (w64 ((v6.length : Int) - 1)) (at_ v6 (w64 ((v6.length : Int) - 1)) fun x12 => (bif (decide (x11.f_From ≤ x12.f_To)) then (inr v6 (w64 ((v6.length : Int) - 1)) (at_ v6 (w64 ((v6.length : Int) - 1)) fun x13 => (inr v6 (w64 ((v6.length : Int) - 1)) (at_ v6 (w64 ((v6.length : Int) - 1)) fun x14 => band_joined_L4 g n v3 (w64 (v4 + 1)) v5 (set_ v6 (w64 ((v6.length : Int) - 1)) (⟨x14.f_From, (if x11.f_To > x13.f_To then x11.f_To else x13.f_To)⟩ : G_Row)) e0)))) else (bif (decide ((v6.length + [x11].length) * 16 ≤ roomBytes')) then band_joined_L4 g n v3 (w64 (v4 + 1)) v5 (v6 ++ [x11]) e0 else none)))) else (bif (decide ((v6.length + [x11].length) * 16 ≤ roomBytes')) then band_joined_L4 g n v3 (w64 (v4 + 1)) v5 (v6 ++ [x11]) e0 else none)))) else e0 v6)
def band_joined_ (g : C_band_joined) (a1 : List G_Row) {R : Type} (k0 : List G_Row → Option R) : Option R :=
 (g.slices_SortFunc__Row_band_joined_1 a1 (fun r2 => (band_joined_L4 g g.N (r2.length : Int) 0 r2 [] (fun e15 => k0 e15))))
noncomputable def I_band_joined [Fuel] : C_band_joined := ⟨NN, @slices_SortFunc__Row_band_joined_1 _⟩
noncomputable def band_joined [Fuel] : T_band_joined := @band_joined_ I_band_joined
def SS_band_joined (g : T_band_joined) : Spec A := fun args => match args with | [.arr 79 a1] => fun k => g a1 (fun z0 => k (.arr 79 z0) [.undef]) | _ => fun _ => none
def sh_band_joined_L4 : SSt := mkSh 48 5 [(3, .own 79 1), (9, .own 79 0), (10, .int .i64), (11, .int .i64)] [(0, .row 79), (1, .row 79)]
def LP_band_joined_L4 (g : C_band_joined) (n : Nat) : LPT A := fun ps => match ps with | [.d (.int .i64 p1), .d (.int .i64 p2), .d (.sl 79 p3), .d (.sl 79 p4)] => fun K => band_joined_L4 g n p1 p2 p3 p4 (fun z0 => K (.exit 0) (mkSt 48 5 [(3, .own 79 1)] [(1, some (.row 79 z0))])) | _ => fun _ => none
noncomputable def code_71 : Code := (Tryz.f71.body).getD .skip
noncomputable def E_band_joined (g : C_band_joined) : Env A := mkE [(95, SS_slices_SortFunc__Row_band_joined_1 g.slices_SortFunc__Row_band_joined_1)] [(5, [2]), (44, [3]), (45, [4])] [(4, ⟨[3, 9, 10, 11], [(3, 79, 1)], [0], []⟩)] [(4, ⟨[3], [], [1], []⟩)] [(4, pieceOf sh_band_joined_L4 (LP_band_joined_L4 g g.N))] [] [] [] [(95, 0)] []
theorem ct_band_joined [Fuel] : NatTab (E_band_joined I_band_joined).C := ct_of (P := Tryz.prog) (T := T) (.cons ok_slices_SortFunc__Row_band_joined_1 .nil) (by kernel_rfl)
noncomputable def cb_band_joined_L4 : Code := sub [1, 1, 1, 0, 1, 0, 0] code_71
theorem s_band_joined_L4 (g : C_band_joined) (n : Nat) : StepOk (E_band_joined g) g.N cb_band_joined_L4 sh_band_joined_L4 (LP_band_joined_L4 g) n := by intro ps; unfold LP_band_joined_L4; split; exact .inr fun R K => (by kernel_rfl); exact .inl fun R K => rfl
theorem lf_band_joined_L4 [Fuel] : LoopFine (E_band_joined I_band_joined) NN cb_band_joined_L4 := fine_loop sh_band_joined_L4 (LP_band_joined_L4 I_band_joined) (by kernel_rfl) ct_band_joined (cuts0 (fun _ => rfl) (by kernel_rfl)) (fun ps R K => by unfold LP_band_joined_L4; split <;> (try unfold band_joined_L4) <;> rfl) (s_band_joined_L4 I_band_joined)
theorem sm_band_joined (g : C_band_joined) : Same (SS_band_joined (@band_joined_ g)) (abody (E_band_joined g) Tryz.f71 code_71 5 [0] [.arr 79] g.N) := by intro args; unfold SS_band_joined; split; exact .inr fun R k => (by kernel_rfl); exact .inl fun R k => rfl
theorem ok_band_joined [Fuel] : Ok 71 (SS_band_joined (@band_joined _)) := okF_of std (.cons ok_slices_SortFunc__Row_band_joined_1 .nil) ⟨rfl, rfl, by kernel_rfl, rfl, rfl, rfl⟩ (sm_band_joined I_band_joined) (cutsL (fun _ => rfl) (.cons lf_band_joined_L4 .nil) (by kernel_rfl)) Tryz.func71 (by kernel_rfl) (by kernel_rfl)
abbrev T_band_permitted : Type 1 := List G_Segment → List UInt8 → Int → Int → {R : Type} → (List G_Row → Option R) → Option R
structure C_band_permitted where
 N : Nat
 kit_Has : T_kit_Has
 slices_Contains__int : T_slices_Contains__int
 band_joined : T_band_joined
def band_permitted_L3 (g : C_band_permitted) : Nat → List UInt8 → Int → Int → List G_Segment → Int → Int → List G_Row → {R : Type} → (List G_Row → Option R) → Option R
 | 0, _, _, _, _, _, _, _, _, _ => none
 | n + 1, v5, v6, v7, v8, v9, v10, v11, _, e0 => (bif (decide (v10 < v9)) then (get_ v8 v10 fun x16 => (bif (x16.f_Class == v5) then (bif (v6 == 0) then (g.kit_Has x16.f_Time v7 (fun r17 => (bif r17 then (bif (decide ((v11.length + [(⟨x16.f_Low, x16.f_High⟩ : G_Row)].length) * 16 ≤ roomBytes')) then band_permitted_L3 g n v5 v6 v7 v8 v9 (w64 (v10 + 1)) (v11 ++ [(⟨x16.f_Low, x16.f_High⟩ : G_Row)]) e0 else none) else band_permitted_L3 g n v5 v6 v7 v8 v9 (w64 (v10 + 1)) v11 e0))) else (g.slices_Contains__int x16.f_Modes v6 (fun r18 => (bif r18 then (g.kit_Has x16.f_Time v7 (fun r19 => (bif r19 then (bif (decide ((v11.length + [(⟨x16.f_Low, x16.f_High⟩ : G_Row)].length) * 16 ≤ roomBytes')) then band_permitted_L3 g n v5 v6 v7 v8 v9 (w64 (v10 + 1)) (v11 ++ [(⟨x16.f_Low, x16.f_High⟩ : G_Row)]) e0 else none) else band_permitted_L3 g n v5 v6 v7 v8 v9 (w64 (v10 + 1)) v11 e0))) else band_permitted_L3 g n v5 v6 v7 v8 v9 (w64 (v10 + 1)) v11 e0)))) else band_permitted_L3 g n v5 v6 v7 v8 v9 (w64 (v10 + 1)) v11 e0)) else e0 v11)
def band_permitted_ (g : C_band_permitted) (a1 : List G_Segment) (a2 : List UInt8) (a3 a4 : Int) {R : Type} (k0 : List G_Row → Option R) : Option R :=
 (band_permitted_L3 g g.N a2 a3 a4 a1 (a1.length : Int) 0 [] (fun e20 => (g.band_joined e20 (fun r21 => k0 r21))))
noncomputable def I_band_permitted [Fuel] : C_band_permitted := ⟨NN, @kit_Has _, @slices_Contains__int _, @band_joined _⟩
noncomputable def band_permitted [Fuel] : T_band_permitted := @band_permitted_ I_band_permitted
def SS_band_permitted (g : T_band_permitted) : Spec A := fun args => match args with | [.d (.sl 55 a1), .d (.str a2), .d (.int .i64 a3), .d (.int .i64 a4)] => fun k => g a1 a2 a3 a4 (fun z0 => k (.arr 79 z0) [.undef, .undef, .undef, .undef]) | _ => fun _ => none
def sh_band_permitted_L3 : SSt := mkSh 49 5 [(1, .str), (2, .int .i64), (3, .int .i64), (9, .own 79 0), (12, .sl 55), (13, .int .i64), (14, .int .i64)] [(0, .row 79)]
def LP_band_permitted_L3 (g : C_band_permitted) (n : Nat) : LPT A := fun ps => match ps with | [.d (.str p1), .d (.int .i64 p2), .d (.int .i64 p3), .d (.sl 55 p4), .d (.int .i64 p5), .d (.int .i64 p6), .d (.sl 79 p7)] => fun K => band_permitted_L3 g n p1 p2 p3 p4 p5 p6 p7 (fun z0 => K (.exit 0) (mkSt 49 5 [(9, .own 79 0)] [(0, some (.row 79 z0))])) | _ => fun _ => none
noncomputable def code_42 : Code := (Tryz.f42.body).getD .skip
noncomputable def E_band_permitted (g : C_band_permitted) : Env A := mkE [(19, SS_kit_Has g.kit_Has), (70, SS_slices_Contains__int g.slices_Contains__int), (71, SS_band_joined g.band_joined)] [(11, [1]), (44, [2]), (45, [3]), (48, [4])] [(3, ⟨[1, 2, 3, 9, 12, 13, 14], [(9, 79, 0)], [], []⟩)] [(3, ⟨[9], [], [0], []⟩)] [(3, pieceOf sh_band_permitted_L3 (LP_band_permitted_L3 g g.N))] [] [] [] [(71, 0)] []
theorem ct_band_permitted [Fuel] : NatTab (E_band_permitted I_band_permitted).C := ct_of (P := Tryz.prog) (T := T) (.cons ok_kit_Has (.cons ok_slices_Contains__int (.cons ok_band_joined .nil))) (by kernel_rfl)
noncomputable def cb_band_permitted_L3 : Code := sub [1, 1, 0, 1, 0, 0] code_42
theorem s_band_permitted_L3 (g : C_band_permitted) (n : Nat) : StepOk (E_band_permitted g) g.N cb_band_permitted_L3 sh_band_permitted_L3 (LP_band_permitted_L3 g) n := by intro ps; unfold LP_band_permitted_L3; split; exact .inr fun R K => (by kernel_rfl); exact .inl fun R K => rfl
theorem lf_band_permitted_L3 [Fuel] : LoopFine (E_band_permitted I_band_permitted) NN cb_band_permitted_L3 := fine_loop sh_band_permitted_L3 (LP_band_permitted_L3 I_band_permitted) (by kernel_rfl) ct_band_permitted (cuts0 (fun _ => rfl) (by kernel_rfl)) (fun ps R K => by unfold LP_band_permitted_L3; split <;> (try unfold band_permitted_L3) <;> rfl) (s_band_permitted_L3 I_band_permitted)
theorem sm_band_permitted (g : C_band_permitted) : Same (SS_band_permitted (@band_permitted_ g)) (abody (E_band_permitted g) Tryz.f42 code_42 5 [] [.arr 79] g.N) := by intro args; unfold SS_band_permitted; split; exact .inr fun R k => (by kernel_rfl); exact .inl fun R k => rfl
theorem ok_band_permitted [Fuel] : Ok 42 (SS_band_permitted (@band_permitted _)) := okF_of std (.cons ok_kit_Has (.cons ok_slices_Contains__int (.cons ok_band_joined .nil))) ⟨rfl, rfl, by kernel_rfl, rfl, rfl, rfl⟩ (sm_band_permitted I_band_permitted) (cutsL (fun _ => rfl) (.cons lf_band_permitted_L3 .nil) (by kernel_rfl)) Tryz.func42 (by kernel_rfl) (by kernel_rfl)
abbrev T_band_May_1 : Type 1 := G_Row → G_Row → {R : Type} → (Bool → G_Row → Option R) → Option R
def band_May_1_ (g : Nat) (a1 a2 : G_Row) {R : Type} (k0 : Bool → G_Row → Option R) : Option R :=
 (bif (decide (a1.f_From ≤ a2.f_From)) then k0 (decide (a2.f_To ≤ a1.f_To)) a2 else k0 false a2)
noncomputable def band_May_1 [Fuel] : T_band_May_1 := @band_May_1_ NN
def SS_band_May_1 (g : T_band_May_1) : Spec A := fun args => match args with | [.agg [.d (.int .i64 a1), .d (.int .i64 a2)], .box [.d (.int .i64 a3), .d (.int .i64 a4)]] => fun k => g ⟨a1, a2⟩ ⟨a3, a4⟩ (fun z0 z1 => k (.d (.bool z0)) [.undef, .box [.d (.int .i64 z1.f_From), .d (.int .i64 z1.f_To)]]) | _ => fun _ => none
noncomputable def code_43 : Code := (Tryz.f43.body).getD .skip
noncomputable def E_band_May_1 (g : Nat) : Env A := mkE [] [(2, [1])] [] [] [] [] [] [] [] [1]
theorem sm_band_May_1 (g : Nat) : Same (SS_band_May_1 (@band_May_1_ g)) (abody (E_band_May_1 g) Tryz.f43 code_43 2 [0] [.asis] g) := by intro args; unfold SS_band_May_1; split; exact .inr fun R k => (by kernel_rfl); exact .inl fun R k => rfl
theorem ok_band_May_1 [Fuel] : Ok 43 (SS_band_May_1 (@band_May_1 _)) := okF_of std .nil ⟨rfl, rfl, by kernel_rfl, rfl, rfl, rfl⟩ (sm_band_May_1 NN) (cuts0 (fun _ => rfl) (by kernel_rfl)) Tryz.func43 (by kernel_rfl) (by kernel_rfl)
abbrev T_slices_IndexFunc__Row_band_May_1 : Type 1 := List G_Row → G_Row → {R : Type} → (Int → G_Row → Option R) → Option R
structure C_slices_IndexFunc__Row_band_May_1 where
 N : Nat
 band_May_1 : T_band_May_1
def slices_IndexFunc__Row_band_May_1_L2 (g : C_slices_IndexFunc__Row_band_May_1) : Nat → List G_Row → Int → Int → G_Row → {R : Type} → (Int → G_Row → Option R) → (G_Row → Option R) → Option R
 | 0, _, _, _, _, _, _, _ => none
 | n + 1, v3, v4, v5, v6, _, e0, e1 => (bif (decide (v5 < v4)) then (get_ v3 v5 fun x10 => (g.band_May_1 x10 v6 (fun r11 r12 => (bif r11 then e0 v5 r12 else slices_IndexFunc__Row_band_May_1_L2 g n v3 v4 (w64 (v5 + 1)) r12 e0 e1)))) else e1 v6)
def slices_IndexFunc__Row_band_May_1_ (g : C_slices_IndexFunc__Row_band_May_1) (a1 : List G_Row) (a2 : G_Row) {R : Type} (k0 : Int → G_Row → Option R) : Option R :=
 (slices_IndexFunc__Row_band_May_1_L2 g g.N a1 (a1.length : Int) 0 a2 (fun e13 e14 => k0 e13 e14) (fun e15 => k0 (-1) e15))
noncomputable def I_slices_IndexFunc__Row_band_May_1 [Fuel] : C_slices_IndexFunc__Row_band_May_1 := ⟨NN, @band_May_1 _⟩
noncomputable def slices_IndexFunc__Row_band_May_1 [Fuel] : T_slices_IndexFunc__Row_band_May_1 := @slices_IndexFunc__Row_band_May_1_ I_slices_IndexFunc__Row_band_May_1
def SS_slices_IndexFunc__Row_band_May_1 (g : T_slices_IndexFunc__Row_band_May_1) : Spec A := fun args => match args with | [.d (.sl 79 a1), .fn 43 [.box [.d (.int .i64 a2), .d (.int .i64 a3)]]] => fun k => g a1 ⟨a2, a3⟩ (fun z0 z1 => k (.d (.int .i64 z0)) [.undef, .fn 43 [.box [.d (.int .i64 z1.f_From), .d (.int .i64 z1.f_To)]]]) | _ => fun _ => none
def sh_slices_IndexFunc__Row_band_May_1_L2 : SSt := mkSh 19 1 [(0, .sl 79), (1, .fn 43 [.ptr 0 0]), (7, .int .i64), (8, .int .i64)] [(0, .box [.int .i64, .int .i64])]
def LP_slices_IndexFunc__Row_band_May_1_L2 (g : C_slices_IndexFunc__Row_band_May_1) (n : Nat) : LPT A := fun ps => match ps with | [.d (.sl 79 p1), .d (.int .i64 p2), .d (.int .i64 p3), .d (.int .i64 p4), .d (.int .i64 p5)] => fun K => slices_IndexFunc__Row_band_May_1_L2 g n p1 p2 p3 ⟨p4, p5⟩ (fun z0 z1 => K .ret (mkSt 19 1 [(1, .fn 43 [.ptr 0 0]), (4, .d (.int .i64 z0))] [(0, some (.box [.d (.int .i64 z1.f_From), .d (.int .i64 z1.f_To)]))])) (fun z0 => K (.exit 0) (mkSt 19 1 [(1, .fn 43 [.ptr 0 0])] [(0, some (.box [.d (.int .i64 z0.f_From), .d (.int .i64 z0.f_To)]))])) | _ => fun _ => none
noncomputable def code_69 : Code := (Tryz.f69.body).getD .skip
noncomputable def E_slices_IndexFunc__Row_band_May_1 (g : C_slices_IndexFunc__Row_band_May_1) : Env A := mkE [(43, SS_band_May_1 g.band_May_1)] [] [(2, ⟨[0, 1, 7, 8], [], [0], []⟩)] [(2, ⟨[1, 4], [], [0], []⟩)] [(2, pieceOf sh_slices_IndexFunc__Row_band_May_1_L2 (LP_slices_IndexFunc__Row_band_May_1_L2 g g.N))] [] [] [] [] [1]
theorem ct_slices_IndexFunc__Row_band_May_1 [Fuel] : NatTab (E_slices_IndexFunc__Row_band_May_1 I_slices_IndexFunc__Row_band_May_1).C := ct_of (P := Tryz.prog) (T := T) (.cons ok_band_May_1 .nil) (by kernel_rfl)
noncomputable def cb_slices_IndexFunc__Row_band_May_1_L2 : Code := sub [1, 0, 1, 0, 0] code_69
theorem s_slices_IndexFunc__Row_band_May_1_L2 (g : C_slices_IndexFunc__Row_band_May_1) (n : Nat) : StepOk (E_slices_IndexFunc__Row_band_May_1 g) g.N cb_slices_IndexFunc__Row_band_May_1_L2 sh_slices_IndexFunc__Row_band_May_1_L2 (LP_slices_IndexFunc__Row_band_May_1_L2 g) n := by intro ps; unfold LP_slices_IndexFunc__Row_band_May_1_L2; split; exact .inr fun R K => (by kernel_rfl); exact .inl fun R K => rfl
theorem lf_slices_IndexFunc__Row_band_May_1_L2 [Fuel] : LoopFine (E_slices_IndexFunc__Row_band_May_1 I_slices_IndexFunc__Row_band_May_1) NN cb_slices_IndexFunc__Row_band_May_1_L2 := fine_loop sh_slices_IndexFunc__Row_band_May_1_L2 (LP_slices_IndexFunc__Row_band_May_1_L2 I_slices_IndexFunc__Row_band_May_1) (by kernel_rfl) ct_slices_IndexFunc__Row_band_May_1 (cuts0 (fun _ => rfl) (by kernel_rfl)) (fun ps R K => by unfold LP_slices_IndexFunc__Row_band_May_1_L2; split <;> (try unfold slices_IndexFunc__Row_band_May_1_L2) <;> rfl) (s_slices_IndexFunc__Row_band_May_1_L2 I_slices_IndexFunc__Row_band_May_1)
theorem sm_slices_IndexFunc__Row_band_May_1 (g : C_slices_IndexFunc__Row_band_May_1) : Same (SS_slices_IndexFunc__Row_band_May_1 (@slices_IndexFunc__Row_band_May_1_ g)) (abody (E_slices_IndexFunc__Row_band_May_1 g) Tryz.f69 code_69 1 [0] [.asis] g.N) := by intro args; unfold SS_slices_IndexFunc__Row_band_May_1; split; exact .inr fun R k => (by kernel_rfl); exact .inl fun R k => rfl
theorem ok_slices_IndexFunc__Row_band_May_1 [Fuel] : Ok 69 (SS_slices_IndexFunc__Row_band_May_1 (@slices_IndexFunc__Row_band_May_1 _)) := okF_of std (.cons ok_band_May_1 .nil) ⟨rfl, rfl, by kernel_rfl, rfl, rfl, rfl⟩ (sm_slices_IndexFunc__Row_band_May_1 I_slices_IndexFunc__Row_band_May_1) (cutsL (fun _ => rfl) (.cons lf_slices_IndexFunc__Row_band_May_1_L2 .nil) (by kernel_rfl)) Tryz.func69 (by kernel_rfl) (by kernel_rfl)
abbrev T_slices_ContainsFunc__Row_band_May_1 : Type 1 := List G_Row → G_Row → {R : Type} → (Bool → G_Row → Option R) → Option R
structure C_slices_ContainsFunc__Row_band_May_1 where
 N : Nat
 slices_IndexFunc__Row_band_May_1 : T_slices_IndexFunc__Row_band_May_1
def slices_ContainsFunc__Row_band_May_1_ (g : C_slices_ContainsFunc__Row_band_May_1) (a1 : List G_Row) (a2 : G_Row) {R : Type} (k0 : Bool → G_Row → Option R) : Option R :=
 (g.slices_IndexFunc__Row_band_May_1 a1 a2 (fun r3 r4 => k0 (decide (r3 ≥ 0)) r4))
noncomputable def I_slices_ContainsFunc__Row_band_May_1 [Fuel] : C_slices_ContainsFunc__Row_band_May_1 := ⟨NN, @slices_IndexFunc__Row_band_May_1 _⟩
noncomputable def slices_ContainsFunc__Row_band_May_1 [Fuel] : T_slices_ContainsFunc__Row_band_May_1 := @slices_ContainsFunc__Row_band_May_1_ I_slices_ContainsFunc__Row_band_May_1
def SS_slices_ContainsFunc__Row_band_May_1 (g : T_slices_ContainsFunc__Row_band_May_1) : Spec A := fun args => match args with | [.d (.sl 79 a1), .fn 43 [.box [.d (.int .i64 a2), .d (.int .i64 a3)]]] => fun k => g a1 ⟨a2, a3⟩ (fun z0 z1 => k (.d (.bool z0)) [.undef, .fn 43 [.box [.d (.int .i64 z1.f_From), .d (.int .i64 z1.f_To)]]]) | _ => fun _ => none
noncomputable def code_41 : Code := (Tryz.f41.body).getD .skip
noncomputable def E_slices_ContainsFunc__Row_band_May_1 (g : C_slices_ContainsFunc__Row_band_May_1) : Env A := mkE [(69, SS_slices_IndexFunc__Row_band_May_1 g.slices_IndexFunc__Row_band_May_1)] [] [] [] [] [] [] [] [(69, 0)] [1]
theorem sm_slices_ContainsFunc__Row_band_May_1 (g : C_slices_ContainsFunc__Row_band_May_1) : Same (SS_slices_ContainsFunc__Row_band_May_1 (@slices_ContainsFunc__Row_band_May_1_ g)) (abody (E_slices_ContainsFunc__Row_band_May_1 g) Tryz.f41 code_41 1 [0] [.asis] g.N) := by intro args; unfold SS_slices_ContainsFunc__Row_band_May_1; split; exact .inr fun R k => (by kernel_rfl); exact .inl fun R k => rfl
theorem ok_slices_ContainsFunc__Row_band_May_1 [Fuel] : Ok 41 (SS_slices_ContainsFunc__Row_band_May_1 (@slices_ContainsFunc__Row_band_May_1 _)) := okF_of std (.cons ok_slices_IndexFunc__Row_band_May_1 .nil) ⟨rfl, rfl, by kernel_rfl, rfl, rfl, rfl⟩ (sm_slices_ContainsFunc__Row_band_May_1 I_slices_ContainsFunc__Row_band_May_1) (cuts0 (fun _ => rfl) (by kernel_rfl)) Tryz.func41 (by kernel_rfl) (by kernel_rfl)
abbrev T_band_May : Type 1 := List G_Segment → List UInt8 → Int → Int → Int → Int → {R : Type} → (Bool → Int → Option R) → Option R
structure C_band_May where
 N : Nat
 kit_Outside : T_kit_Outside
 band_CheckSegments : T_band_CheckSegments
 kit_IsKey : T_kit_IsKey
 kit_IsMode : T_kit_IsMode
 kit_IsMoment : T_kit_IsMoment
 band_used : T_band_used
 slices_ContainsFunc__Row_band_May_1 : T_slices_ContainsFunc__Row_band_May_1
 band_permitted : T_band_permitted
def band_May_ (g : C_band_May) (a1 : List G_Segment) (a2 : List UInt8) (a3 a4 a5 a6 : Int) {R : Type} (k0 : Bool → Int → Option R) : Option R :=
 (g.band_CheckSegments a1 (fun r7 => (bif (r7 != 0) then k0 false r7 else (g.kit_IsKey a2 (fun r8 => (bif (!r8) then k0 false 5 else (g.kit_Outside a3 0 30000000000 (fun r9 => (bif r9 then k0 false 1 else (g.kit_Outside a4 1 100000 (fun r10 => (bif r10 then k0 false 1 else (g.kit_IsMode a5 (fun r11 => (bif (!r11) then k0 false 4 else (g.kit_IsMoment a6 (fun r12 => (bif (!r12) then k0 false 1 else (g.band_used a3 a4 (fun r13 => (g.band_permitted a1 a2 a5 a6 (fun r14 => (g.slices_ContainsFunc__Row_band_May_1 r14 r13 (fun r15 r16 => k0 r15 0))))))))))))))))))))))))
noncomputable def I_band_May [Fuel] : C_band_May := ⟨NN, @kit_Outside _, @band_CheckSegments _, @kit_IsKey _, @kit_IsMode _, @kit_IsMoment _, @band_used _, @slices_ContainsFunc__Row_band_May_1 _, @band_permitted _⟩
noncomputable def band_May [Fuel] : T_band_May := @band_May_ I_band_May
def SS_band_May (g : T_band_May) : Spec A := fun args => match args with | [.d (.sl 55 a1), .d (.str a2), .d (.int .i64 a3), .d (.int .i64 a4), .d (.int .i64 a5), .d (.int .i64 a6)] => fun k => g a1 a2 a3 a4 a5 a6 (fun z0 z1 => k (.tup [.d (.bool z0), .d (.int .i64 z1)]) [.undef, .undef, .undef, .undef, .undef, .undef]) | _ => fun _ => none
noncomputable def code_22 : Code := (Tryz.f22.body).getD .skip
noncomputable def E_band_May (g : C_band_May) : Env A := mkE [(17, SS_kit_Outside g.kit_Outside), (36, SS_band_CheckSegments g.band_CheckSegments), (37, SS_kit_IsKey g.kit_IsKey), (38, SS_kit_IsMode g.kit_IsMode), (39, SS_kit_IsMoment g.kit_IsMoment), (40, SS_band_used g.band_used), (41, SS_slices_ContainsFunc__Row_band_May_1 g.slices_ContainsFunc__Row_band_May_1), (42, SS_band_permitted g.band_permitted)] [(15, [0]), (47, [1])] [] [] [] [] [] [] [] []
theorem sm_band_May (g : C_band_May) : Same (SS_band_May (@band_May_ g)) (abody (E_band_May g) Tryz.f22 code_22 2 [] [.asis, .asis] g.N) := by intro args; unfold SS_band_May; split; exact .inr fun R k => (by kernel_rfl); exact .inl fun R k => rfl
theorem ok_band_May [Fuel] : Ok 22 (SS_band_May (@band_May _)) := okF_of std (.cons ok_kit_Outside (.cons ok_band_CheckSegments (.cons ok_kit_IsKey (.cons ok_kit_IsMode (.cons ok_kit_IsMoment (.cons ok_band_used (.cons ok_slices_ContainsFunc__Row_band_May_1 (.cons ok_band_permitted .nil)))))))) ⟨rfl, rfl, by kernel_rfl, rfl, rfl, rfl⟩ (sm_band_May I_band_May) (cuts0 (fun _ => rfl) (by kernel_rfl)) Tryz.func22 (by kernel_rfl) (by kernel_rfl)
abbrev T_club_isSquare : Type 1 := List UInt8 → {R : Type} → (Bool → Option R) → Option R
def club_isSquare_L4 (g : Nat) : Nat → List UInt8 → Int → Int → {R : Type} → (Bool → Option R) → Option R → Option R
 | 0, _, _, _, _, _, _ => none
 | n + 1, v2, v3, v4, _, e0, e1 => (bif (decide (v4 < v3)) then (bif ((w64 (Int.tdiv v4 2)) == 1) then (get_ v2 v4 fun x11 => (bif (decide ((x11.toNat : Int) < 48)) then e0 false else (get_ v2 v4 fun x12 => (bif (decide ((x12.toNat : Int) > 57)) then e0 false else club_isSquare_L4 g n v2 v3 (w64 (v4 + 1)) e0 e1)))) else (bif ((w64 (Int.tdiv v4 2)) == 2) then (get_ v2 v4 fun x13 => (bif (decide ((x13.toNat : Int) < 97)) then e0 false else (get_ v2 v4 fun x14 => (bif (decide ((x14.toNat : Int) > 120)) then e0 false else club_isSquare_L4 g n v2 v3 (w64 (v4 + 1)) e0 e1)))) else (get_ v2 v4 fun x15 => (bif (decide ((x15.toNat : Int) < 97)) then e0 false else (get_ v2 v4 fun x16 => (bif (decide ((x16.toNat : Int) > 114)) then e0 false else club_isSquare_L4 g n v2 v3 (w64 (v4 + 1)) e0 e1)))))) else e1)
def club_isSquare_ (g : Nat) (a1 : List UInt8) {R : Type} (k0 : Bool → Option R) : Option R :=
 (bif ((a1.length : Int) != 2) then (bif ((a1.length : Int) != 4) then (bif ((a1.length : Int) != 6) then k0 false else (club_isSquare_L4 g g a1 (a1.length : Int) 0 (fun e17 => k0 e17) (k0 true))) else (club_isSquare_L4 g g a1 (a1.length : Int) 0 (fun e18 => k0 e18) (k0 true))) else (club_isSquare_L4 g g a1 (a1.length : Int) 0 (fun e19 => k0 e19) (k0 true)))
noncomputable def club_isSquare [Fuel] : T_club_isSquare := @club_isSquare_ NN
def SS_club_isSquare (g : T_club_isSquare) : Spec A := fun args => match args with | [.d (.str a1)] => fun k => g a1 (fun z0 => k (.d (.bool z0)) [.undef]) | _ => fun _ => none
def sh_club_isSquare_L4 : SSt := mkSh 43 0 [(0, .str), (20, .int .i64), (21, .int .i64)] []
def LP_club_isSquare_L4 (g : Nat) (n : Nat) : LPT A := fun ps => match ps with | [.d (.str p1), .d (.int .i64 p2), .d (.int .i64 p3)] => fun K => club_isSquare_L4 g n p1 p2 p3 (fun z0 => K .ret (mkSt 43 0 [(2, .d (.bool z0))] [])) (K (.exit 0) (mkSt 43 0 [] [])) | _ => fun _ => none
noncomputable def code_97 : Code := (Tryz.f97.body).getD .skip
noncomputable def E_club_isSquare (g : Nat) : Env A := mkE [] [] [(4, ⟨[0, 20, 21], [], [], []⟩)] [(4, ⟨[2], [], [], []⟩)] [(4, pieceOf sh_club_isSquare_L4 (LP_club_isSquare_L4 g g))] [] [] [] [] []
theorem ct_club_isSquare [Fuel] : NatTab (E_club_isSquare NN).C := ct_of (P := Tryz.prog) (T := T) .nil (by kernel_rfl)
noncomputable def cb_club_isSquare_L4 : Code := sub [1, 1, 0, 1, 0, 0] code_97
theorem s_club_isSquare_L4 (g : Nat) (n : Nat) : StepOk (E_club_isSquare g) g cb_club_isSquare_L4 sh_club_isSquare_L4 (LP_club_isSquare_L4 g) n := by intro ps; unfold LP_club_isSquare_L4; split; exact .inr fun R K => (by kernel_rfl); exact .inl fun R K => rfl
theorem lf_club_isSquare_L4 [Fuel] : LoopFine (E_club_isSquare NN) NN cb_club_isSquare_L4 := fine_loop sh_club_isSquare_L4 (LP_club_isSquare_L4 NN) (by kernel_rfl) ct_club_isSquare (cuts0 (fun _ => rfl) (by kernel_rfl)) (fun ps R K => by unfold LP_club_isSquare_L4; split <;> (try unfold club_isSquare_L4) <;> rfl) (s_club_isSquare_L4 NN)
theorem sm_club_isSquare (g : Nat) : Same (SS_club_isSquare (@club_isSquare_ g)) (abody (E_club_isSquare g) Tryz.f97 code_97 0 [] [.asis] g) := by intro args; unfold SS_club_isSquare; split; exact .inr fun R k => (by kernel_rfl); exact .inl fun R k => rfl
theorem ok_club_isSquare [Fuel] : Ok 97 (SS_club_isSquare (@club_isSquare _)) := okF_of std .nil ⟨rfl, rfl, by kernel_rfl, rfl, rfl, rfl⟩ (sm_club_isSquare NN) (cutsL (fun _ => rfl) (.cons lf_club_isSquare_L4 .nil) (by kernel_rfl)) Tryz.func97 (by kernel_rfl) (by kernel_rfl)
abbrev T_club_isLocator : Type 1 := List UInt8 → {R : Type} → (Bool → Option R) → Option R
structure C_club_isLocator where
 N : Nat
 club_isSquare : T_club_isSquare
def club_isLocator_ (g : C_club_isLocator) (a1 : List UInt8) {R : Type} (k0 : Bool → Option R) : Option R :=
 (bif ((a1.length : Int) == 6) then (g.club_isSquare a1 (fun r2 => k0 r2)) else k0 false)
noncomputable def I_club_isLocator [Fuel] : C_club_isLocator := ⟨NN, @club_isSquare _⟩
noncomputable def club_isLocator [Fuel] : T_club_isLocator := @club_isLocator_ I_club_isLocator
def SS_club_isLocator (g : T_club_isLocator) : Spec A := fun args => match args with | [.d (.str a1)] => fun k => g a1 (fun z0 => k (.d (.bool z0)) [.undef]) | _ => fun _ => none
noncomputable def code_72 : Code := (Tryz.f72.body).getD .skip
noncomputable def E_club_isLocator (g : C_club_isLocator) : Env A := mkE [(97, SS_club_isSquare g.club_isSquare)] [] [] [] [] [] [] [] [] []
theorem sm_club_isLocator (g : C_club_isLocator) : Same (SS_club_isLocator (@club_isLocator_ g)) (abody (E_club_isLocator g) Tryz.f72 code_72 0 [] [.asis] g.N) := by intro args; unfold SS_club_isLocator; split; exact .inr fun R k => (by kernel_rfl); exact .inl fun R k => rfl
theorem ok_club_isLocator [Fuel] : Ok 72 (SS_club_isLocator (@club_isLocator _)) := okF_of std (.cons ok_club_isSquare .nil) ⟨rfl, rfl, by kernel_rfl, rfl, rfl, rfl⟩ (sm_club_isLocator I_club_isLocator) (cuts0 (fun _ => rfl) (by kernel_rfl)) Tryz.func72 (by kernel_rfl) (by kernel_rfl)
abbrev T_club_CheckEntrants : Type 1 := List G_Entrant → {R : Type} → (Int → Option R) → Option R
structure C_club_CheckEntrants where
 N : Nat
 kit_Outside : T_kit_Outside
 kit_IsKey : T_kit_IsKey
 strings_Compare : T_strings_Compare
 call_Is : T_call_Is
 cmp_Or__int : T_cmp_Or__int
 club_isLocator : T_club_isLocator
def club_CheckEntrants_L4 (g : C_club_CheckEntrants) : Nat → List G_Entrant → List G_Entrant → Int → Int → {R : Type} → (Int → Option R) → Option R → Option R
 | 0, _, _, _, _, _, _, _ => none
 | n + 1, v2, v3, v4, v5, _, e0, e1 => (bif (decide (v5 < v4)) then (get_ v3 v5 fun x21 => (g.call_Is x21.f_Call (fun r22 => (bif (!r22) then e0 3 else (g.kit_IsKey x21.f_Category (fun r23 => (bif (!r23) then e0 5 else (g.kit_Outside x21.f_Points 0 1000000000000 (fun r24 => (bif r24 then e0 1 else (bif (!(x21.f_Locator == [])) then (g.club_isLocator x21.f_Locator (fun r25 => (bif (!r25) then e0 3 else (bif (decide (v5 > 0)) then (get_ v2 (w64 (v5 - 1)) fun x26 => (get_ v2 (w64 (v5 - 1)) fun x27 => (g.strings_Compare x26.f_Category x21.f_Category (fun r28 => (g.strings_Compare x27.f_Call x21.f_Call (fun r29 => (g.cmp_Or__int [r28, r29] (fun r30 => (bif (decide (r30 ≥ 0)) then e0 7 else club_CheckEntrants_L4 g n v2 v3 v4 (w64 (v5 + 1)) e0 e1))))))))) else club_CheckEntrants_L4 g n v2 v3 v4 (w64 (v5 + 1)) e0 e1)))) else (bif (decide (v5 > 0)) then (get_ v2 (w64 (v5 - 1)) fun x31 => (get_ v2 (w64 (v5 - 1)) fun x32 => (g.strings_Compare x31.f_Category x21.f_Category (fun r33 => (g.strings_Compare x32.f_Call x21.f_Call (fun r34 => (g.cmp_Or__int [r33, r34] (fun r35 => (bif (decide (r35 ≥ 0)) then e0 7 else club_CheckEntrants_L4 g n v2 v3 v4 (w64 (v5 + 1)) e0 e1))))))))) else club_CheckEntrants_L4 g n v2 v3 v4 (w64 (v5 + 1)) e0 e1)))))))))))) else e1)
def club_CheckEntrants_ (g : C_club_CheckEntrants) (a1 : List G_Entrant) {R : Type} (k0 : Int → Option R) : Option R :=
 (bif (decide ((a1.length : Int) > 500)) then k0 2 else (club_CheckEntrants_L4 g g.N a1 a1 (a1.length : Int) 0 (fun e36 => k0 e36) (k0 0)))
noncomputable def I_club_CheckEntrants [Fuel] : C_club_CheckEntrants := ⟨NN, @kit_Outside _, @kit_IsKey _, @strings_Compare _, @call_Is _, @cmp_Or__int _, @club_isLocator _⟩
noncomputable def club_CheckEntrants [Fuel] : T_club_CheckEntrants := @club_CheckEntrants_ I_club_CheckEntrants
def SS_club_CheckEntrants (g : T_club_CheckEntrants) : Spec A := fun args => match args with | [.d (.sl 61 a1)] => fun k => g a1 (fun z0 => k (.d (.int .i64 z0)) [.undef]) | _ => fun _ => none
def sh_club_CheckEntrants_L4 : SSt := mkSh 66 2 [(0, .sl 61), (8, .sl 61), (9, .int .i64), (10, .int .i64)] []
def LP_club_CheckEntrants_L4 (g : C_club_CheckEntrants) (n : Nat) : LPT A := fun ps => match ps with | [.d (.sl 61 p1), .d (.sl 61 p2), .d (.int .i64 p3), .d (.int .i64 p4)] => fun K => club_CheckEntrants_L4 g n p1 p2 p3 p4 (fun z0 => K .ret (mkSt 66 2 [(2, .d (.int .i64 z0))] [])) (K (.exit 0) (mkSt 66 2 [] [])) | _ => fun _ => none
noncomputable def code_44 : Code := (Tryz.f44.body).getD .skip
noncomputable def E_club_CheckEntrants (g : C_club_CheckEntrants) : Env A := mkE [(17, SS_kit_Outside g.kit_Outside), (37, SS_kit_IsKey g.kit_IsKey), (54, SS_strings_Compare g.strings_Compare), (59, SS_call_Is g.call_Is), (61, SS_cmp_Or__int g.cmp_Or__int), (72, SS_club_isLocator g.club_isLocator)] [(4, [0]), (61, [1])] [(4, ⟨[0, 8, 9, 10], [], [], []⟩)] [(4, ⟨[2], [], [], []⟩)] [(4, pieceOf sh_club_CheckEntrants_L4 (LP_club_CheckEntrants_L4 g g.N))] [] [] [] [] []
theorem ct_club_CheckEntrants [Fuel] : NatTab (E_club_CheckEntrants I_club_CheckEntrants).C := ct_of (P := Tryz.prog) (T := T) (.cons ok_kit_Outside (.cons ok_kit_IsKey (.cons ok_strings_Compare (.cons ok_call_Is (.cons ok_cmp_Or__int (.cons ok_club_isLocator .nil)))))) (by kernel_rfl)
noncomputable def cb_club_CheckEntrants_L4 : Code := sub [1, 1, 0, 1, 0, 0] code_44
theorem s_club_CheckEntrants_L4 (g : C_club_CheckEntrants) (n : Nat) : StepOk (E_club_CheckEntrants g) g.N cb_club_CheckEntrants_L4 sh_club_CheckEntrants_L4 (LP_club_CheckEntrants_L4 g) n := by intro ps; unfold LP_club_CheckEntrants_L4; split; exact .inr fun R K => (by kernel_rfl); exact .inl fun R K => rfl
theorem lf_club_CheckEntrants_L4 [Fuel] : LoopFine (E_club_CheckEntrants I_club_CheckEntrants) NN cb_club_CheckEntrants_L4 := fine_loop sh_club_CheckEntrants_L4 (LP_club_CheckEntrants_L4 I_club_CheckEntrants) (by kernel_rfl) ct_club_CheckEntrants (cuts0 (fun _ => rfl) (by kernel_rfl)) (fun ps R K => by unfold LP_club_CheckEntrants_L4; split <;> (try unfold club_CheckEntrants_L4) <;> rfl) (s_club_CheckEntrants_L4 I_club_CheckEntrants)
theorem sm_club_CheckEntrants (g : C_club_CheckEntrants) : Same (SS_club_CheckEntrants (@club_CheckEntrants_ g)) (abody (E_club_CheckEntrants g) Tryz.f44 code_44 2 [] [.asis] g.N) := by intro args; unfold SS_club_CheckEntrants; split; exact .inr fun R k => (by kernel_rfl); exact .inl fun R k => rfl
theorem ok_club_CheckEntrants [Fuel] : Ok 44 (SS_club_CheckEntrants (@club_CheckEntrants _)) := okF_of std (.cons ok_kit_Outside (.cons ok_kit_IsKey (.cons ok_strings_Compare (.cons ok_call_Is (.cons ok_cmp_Or__int (.cons ok_club_isLocator .nil)))))) ⟨rfl, rfl, by kernel_rfl, rfl, rfl, rfl⟩ (sm_club_CheckEntrants I_club_CheckEntrants) (cutsL (fun _ => rfl) (.cons lf_club_CheckEntrants_L4 .nil) (by kernel_rfl)) Tryz.func44 (by kernel_rfl) (by kernel_rfl)
abbrev T_club_ranked_1 : Type 1 := G_Place → G_Place → {R : Type} → (Int → Option R) → Option R
structure C_club_ranked_1 where
 N : Nat
 strings_Compare : T_strings_Compare
 cmp_Or__int : T_cmp_Or__int
 cmp_Compare__int : T_cmp_Compare__int
def club_ranked_1_ (g : C_club_ranked_1) (a1 a2 : G_Place) {R : Type} (k0 : Int → Option R) : Option R :=
 (g.cmp_Compare__int a2.f_Points a1.f_Points (fun r3 => (g.strings_Compare a1.f_Key a2.f_Key (fun r4 => (g.cmp_Or__int [r3, r4] (fun r5 => k0 r5))))))
noncomputable def I_club_ranked_1 [Fuel] : C_club_ranked_1 := ⟨NN, @strings_Compare _, @cmp_Or__int _, @cmp_Compare__int _⟩
noncomputable def club_ranked_1 [Fuel] : T_club_ranked_1 := @club_ranked_1_ I_club_ranked_1
def SS_club_ranked_1 (g : T_club_ranked_1) : Spec A := fun args => match args with | [.agg [.d (.int .i64 a1), .d (.int .i64 a2), .d (.str a3)], .agg [.d (.int .i64 a4), .d (.int .i64 a5), .d (.str a6)]] => fun k => g ⟨a1, a2, a3⟩ ⟨a4, a5, a6⟩ (fun z0 => k (.d (.int .i64 z0)) [.undef, .undef]) | _ => fun _ => none
noncomputable def code_74 : Code := (Tryz.f74.body).getD .skip
noncomputable def E_club_ranked_1 (g : C_club_ranked_1) : Env A := mkE [(54, SS_strings_Compare g.strings_Compare), (61, SS_cmp_Or__int g.cmp_Or__int), (62, SS_cmp_Compare__int g.cmp_Compare__int)] [(2, [0]), (3, [1]), (15, [2])] [] [] [] [] [] [] [] []
theorem sm_club_ranked_1 (g : C_club_ranked_1) : Same (SS_club_ranked_1 (@club_ranked_1_ g)) (abody (E_club_ranked_1 g) Tryz.f74 code_74 3 [] [.asis] g.N) := by intro args; unfold SS_club_ranked_1; split; exact .inr fun R k => (by kernel_rfl); exact .inl fun R k => rfl
theorem ok_club_ranked_1 [Fuel] : Ok 74 (SS_club_ranked_1 (@club_ranked_1 _)) := okF_of std (.cons ok_strings_Compare (.cons ok_cmp_Or__int (.cons ok_cmp_Compare__int .nil))) ⟨rfl, rfl, by kernel_rfl, rfl, rfl, rfl⟩ (sm_club_ranked_1 I_club_ranked_1) (cuts0 (fun _ => rfl) (by kernel_rfl)) Tryz.func74 (by kernel_rfl) (by kernel_rfl)
noncomputable def Ed_club_ranked_1 (g : C_club_ranked_1) : Env A := mkED [(54, SS_strings_Compare g.strings_Compare), (61, SS_cmp_Or__int g.cmp_Or__int), (62, SS_cmp_Compare__int g.cmp_Compare__int)] [(2, [0]), (3, [1]), (15, [2])] [] [] [] [] [] [] [] []
theorem smd_club_ranked_1 (g : C_club_ranked_1) : Same (SS_club_ranked_1 (@club_ranked_1_ g)) (abody (Ed_club_ranked_1 g) Tryz.f74 code_74 3 [] [.asis] g.N) := by intro args; unfold SS_club_ranked_1; split; exact .inr fun R k => (by kernel_rfl); exact .inl fun R k => rfl
theorem okd_club_ranked_1 [Fuel] : OkD 74 (SS_club_ranked_1 (@club_ranked_1 _)) := okF_of stdD (.cons okd_strings_Compare (.cons okd_cmp_Or__int (.cons okd_cmp_Compare__int .nil))) ⟨rfl, rfl, by kernel_rfl, rfl, rfl, rfl⟩ (smd_club_ranked_1 I_club_ranked_1) (cuts0 (fun _ => rfl) (by kernel_rfl)) Tryz.func74 (by kernel_rfl) (by kernel_rfl)
end Go.Am
