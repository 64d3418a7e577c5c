/- The functions of the program as Lean functions, each shown to be what the code computes, part 5. No condition: lemmas for the claim. -/
import Derived.Test.YtfifleplhegkdaaGreatDoorF0
import Derived.Test.YtfifleplhegkdaaGreatDoorFSh
import Derived.Test.YtfifleplhegkdaaGreatDoorF3
import Derived.Test.YtfifleplhegkdaaGreatDoorF4
set_option linter.unusedVariables false
set_option maxRecDepth 100000
namespace Go.Am
open Go Go.Proofs
abbrev T_slices_Contains__int : Type 1 := List Int → Int → {R : Type} → (Bool → Option R) → Option R
structure C_slices_Contains__int where
 N : Nat
 slices_Index__int : T_slices_Index__int
def slices_Contains__int_ (g : C_slices_Contains__int) (a1 : List Int) (a2 : Int) {R : Type} (k0 : Bool → Option R) : Option R :=
 (g.slices_Index__int a1 a2 (fun r3 => k0 (decide (r3 ≥ 0))))
noncomputable def I_slices_Contains__int [Fuel] : C_slices_Contains__int := ⟨NN, @slices_Index__int _⟩
noncomputable def slices_Contains__int [Fuel] : T_slices_Contains__int := @slices_Contains__int_ I_slices_Contains__int
def SS_slices_Contains__int (g : T_slices_Contains__int) : Spec A := fun args => match args with | [.d (.sl 3 a1), .d (.int .i64 a2)] => fun k => g a1 a2 (fun z0 => k (.d (.bool z0)) [.undef, .undef]) | _ => fun _ => none
noncomputable def code_18 : Code := (Tryz.f18.body).getD .skip
noncomputable def E_slices_Contains__int (g : C_slices_Contains__int) : Env A := mkE [(57, SS_slices_Index__int g.slices_Index__int)] [] [] [] [] [] [] [] [] []
theorem sm_slices_Contains__int (g : C_slices_Contains__int) : Same (SS_slices_Contains__int (@slices_Contains__int_ g)) (abody (E_slices_Contains__int g) Tryz.f18 code_18 0 [] [.asis] g.N) := by intro args; unfold SS_slices_Contains__int; split; exact .inr fun R k => (by kernel_rfl); exact .inl fun R k => rfl
theorem ok_slices_Contains__int [Fuel] : Ok 18 (SS_slices_Contains__int (@slices_Contains__int _)) := okF_of std (.cons ok_slices_Index__int .nil) ⟨rfl, rfl, by kernel_rfl, rfl, rfl, rfl⟩ (sm_slices_Contains__int I_slices_Contains__int) (cuts0 (fun _ => rfl) (by kernel_rfl)) Tryz.func18 (by kernel_rfl) (by kernel_rfl)
abbrev T_band_joined_1 : Type 1 := G_Row → G_Row → {R : Type} → (Int → Option R) → Option R
def band_joined_1_ (g : Nat) (a1 a2 : G_Row) {R : Type} (k0 : Int → Option R) : Option R :=
 k0 (w64 (a1.f_From - a2.f_From))
noncomputable def band_joined_1 [Fuel] : T_band_joined_1 := @band_joined_1_ NN
def SS_band_joined_1 (g : T_band_joined_1) : Spec A := fun args => match args with | [.agg [.d (.int .i64 a1), .d (.int .i64 a2)], .agg [.d (.int .i64 a3), .d (.int .i64 a4)]] => fun k => g ⟨a1, a2⟩ ⟨a3, a4⟩ (fun z0 => k (.d (.int .i64 z0)) [.undef, .undef]) | _ => fun _ => none
noncomputable def code_98 : Code := (Tryz.f98.body).getD .skip
noncomputable def E_band_joined_1 (g : Nat) : Env A := mkE [] [(2, [0]), (3, [1])] [] [] [] [] [] [] [] []
theorem sm_band_joined_1 (g : Nat) : Same (SS_band_joined_1 (@band_joined_1_ g)) (abody (E_band_joined_1 g) Tryz.f98 code_98 2 [] [.asis] g) := by intro args; unfold SS_band_joined_1; split; exact .inr fun R k => (by kernel_rfl); exact .inl fun R k => rfl
theorem ok_band_joined_1 [Fuel] : Ok 98 (SS_band_joined_1 (@band_joined_1 _)) := okF_of std .nil ⟨rfl, rfl, by kernel_rfl, rfl, rfl, rfl⟩ (sm_band_joined_1 NN) (cuts0 (fun _ => rfl) (by kernel_rfl)) Tryz.func98 (by kernel_rfl) (by kernel_rfl)
noncomputable def Ed_band_joined_1 (g : Nat) : Env A := mkED [] [(2, [0]), (3, [1])] [] [] [] [] [] [] [] []
theorem smd_band_joined_1 (g : Nat) : Same (SS_band_joined_1 (@band_joined_1_ g)) (abody (Ed_band_joined_1 g) Tryz.f98 code_98 2 [] [.asis] g) := by intro args; unfold SS_band_joined_1; split; exact .inr fun R k => (by kernel_rfl); exact .inl fun R k => rfl
theorem okd_band_joined_1 [Fuel] : OkD 98 (SS_band_joined_1 (@band_joined_1 _)) := okF_of stdD .nil ⟨rfl, rfl, by kernel_rfl, rfl, rfl, rfl⟩ (smd_band_joined_1 NN) (cuts0 (fun _ => rfl) (by kernel_rfl)) Tryz.func98 (by kernel_rfl) (by kernel_rfl)
abbrev T_slices_SortFunc__Row_band_joined_1 : Type 1 := List G_Row → {R : Type} → (List G_Row → Option R) → Option R
noncomputable def slices_SortFunc__Row_band_joined_1 [Fuel] : T_slices_SortFunc__Row_band_joined_1 := @X_sortf G_Row (@band_joined_1 _)
def SS_slices_SortFunc__Row_band_joined_1 (g : T_slices_SortFunc__Row_band_joined_1) : Spec A := fun args => match args with | [.arr 39 a1, .fn 98 []] => fun k => g a1 (fun z => k (.tup []) [.arr 39 z, .fn 98 []]) | _ => fun _ => none
theorem h1_slices_SortFunc__Row_band_joined_1 [Fuel] (xs : List (A 39)) (R : Type) (k : IV A → List (IV A) → Option R) : SS_slices_SortFunc__Row_band_joined_1 (@slices_SortFunc__Row_band_joined_1 _) [.arr 39 xs, .fn 98 []] k = X_sortf (α := A 39) (@band_joined_1 _) xs (fun z => k (.tup []) [.arr 39 z, .fn 98 []]) := by kernel_rfl
theorem h2_slices_SortFunc__Row_band_joined_1 [Fuel] (args : List (IV A)) (R : Type) (k : IV A → List (IV A) → Option R) (h : ∀ xs : List (A 39), args ≠ [.arr 39 xs, .fn 98 []]) : SS_slices_SortFunc__Row_band_joined_1 (@slices_SortFunc__Row_band_joined_1 _) args k = none := by unfold SS_slices_SortFunc__Row_band_joined_1; split; exact absurd rfl (h _); rfl
theorem hc_slices_SortFunc__Row_band_joined_1 [Fuel] (x y : A 39) (R : Type) (k : Int → Option R) : callOf T (SS_band_joined_1 (@band_joined_1 _)) 39 x y k = @band_joined_1 _ x y R k := by kernel_rfl
theorem hs_slices_SortFunc__Row_band_joined_1 (x : G_Row) : (enc_e39 x).all scal = true := rfl
theorem ok_slices_SortFunc__Row_band_joined_1 [Fuel] : Ok 97 (SS_slices_SortFunc__Row_band_joined_1 (@slices_SortFunc__Row_band_joined_1 _)) := ⟨sortf_sound (tyOk Tryz.prog) (e := 39) Tryz.sortf97 Tryz.isAgg39 Tryz.sizeOf39 (fun x d hd => List.all_eq_true.1 (hs_slices_SortFunc__Row_band_joined_1 x) d hd) hc_slices_SortFunc__Row_band_joined_1 okd_band_joined_1.fs okd_band_joined_1.en h1_slices_SortFunc__Row_band_joined_1 h2_slices_SortFunc__Row_band_joined_1, sortf_na (e := 39) h1_slices_SortFunc__Row_band_joined_1 h2_slices_SortFunc__Row_band_joined_1, enters_of (fn := Tryz.f97) Tryz.func97 (by kernel_rfl) (by kernel_rfl)⟩
abbrev T_band_joined : Type 1 := List G_Row → {R : Type} → (List G_Row → Option R) → Option R
structure C_band_joined where
 N : Nat
 slices_SortFunc__Row_band_joined_1 : T_slices_SortFunc__Row_band_joined_1
def band_joined_L4 (g : C_band_joined) : Nat → Int → Int → List G_Row → List G_Row → {R : Type} → (List G_Row → Option R) → Option R
 | 0, _, _, _, _, _, _ => none
 | n + 1, v3, v4, v5, v6, _, e0 => (bif (decide (v4 < v3)) then (inr v5 v4 (at_ v5 v4 fun x11 => (bif (decide ((w64 ((v6.length : Int) - 1)) ≥ 0)) then (inr v6 (w64 ((v6.length : Int) - 1)) (at_ v6 (w64 ((v6.length : Int) - 1)) fun x12 => (bif (decide (x11.f_From ≤ x12.f_To)) then (inr v6 (w64 ((v6.length : Int) - 1)) (at_ v6 (w64 ((v6.length : Int) - 1)) fun x13 => (inr v6 (w64 ((v6.length : Int) - 1)) (at_ v6 (w64 ((v6.length : Int) - 1)) fun x14 => band_joined_L4 g n v3 (w64 (v4 + 1)) v5 (set_ v6 (w64 ((v6.length : Int) - 1)) (⟨x14.f_From, (if x11.f_To > x13.f_To then x11.f_To else x13.f_To)⟩ : G_Row)) e0)))) else (bif (decide ((v6.length + [x11].length) * 16 ≤ roomBytes')) then band_joined_L4 g n v3 (w64 (v4 + 1)) v5 (v6 ++ [x11]) e0 else none)))) else (bif (decide ((v6.length + [x11].length) * 16 ≤ roomBytes')) then band_joined_L4 g n v3 (w64 (v4 + 1)) v5 (v6 ++ [x11]) e0 else none)))) else e0 v6)
def band_joined_ (g : C_band_joined) (a1 : List G_Row) {R : Type} (k0 : List G_Row → Option R) : Option R :=
 (g.slices_SortFunc__Row_band_joined_1 a1 (fun r2 => (band_joined_L4 g g.N (r2.length : Int) 0 r2 [] (fun e15 => k0 e15))))
noncomputable def I_band_joined [Fuel] : C_band_joined := ⟨NN, @slices_SortFunc__Row_band_joined_1 _⟩
noncomputable def band_joined [Fuel] : T_band_joined := @band_joined_ I_band_joined
def SS_band_joined (g : T_band_joined) : Spec A := fun args => match args with | [.arr 39 a1] => fun k => g a1 (fun z0 => k (.arr 39 z0) [.undef]) | _ => fun _ => none
def sh_band_joined_L4 : SSt := mkSh 48 5 [(3, .own 39 1), (9, .own 39 0), (10, .int .i64), (11, .int .i64)] [(0, .row 39), (1, .row 39)]
def LP_band_joined_L4 (g : C_band_joined) (n : Nat) : LPT A := fun ps => match ps with | [.d (.int .i64 p1), .d (.int .i64 p2), .d (.sl 39 p3), .d (.sl 39 p4)] => fun K => band_joined_L4 g n p1 p2 p3 p4 (fun z0 => K (.exit 0) (mkSt 48 5 [(3, .own 39 1)] [(1, some (.row 39 z0))])) | _ => fun _ => none
noncomputable def code_65 : Code := (Tryz.f65.body).getD .skip
noncomputable def E_band_joined (g : C_band_joined) : Env A := mkE [(97, SS_slices_SortFunc__Row_band_joined_1 g.slices_SortFunc__Row_band_joined_1)] [(5, [2]), (44, [3]), (45, [4])] [(4, ⟨[3, 9, 10, 11], [(3, 39, 1)], [0], []⟩)] [(4, ⟨[3], [], [1], []⟩)] [(4, pieceOf sh_band_joined_L4 (LP_band_joined_L4 g g.N))] [] [] [] [(97, 0)] []
theorem ct_band_joined [Fuel] : NatTab (E_band_joined I_band_joined).C := ct_of (P := Tryz.prog) (T := T) (.cons ok_slices_SortFunc__Row_band_joined_1 .nil) (by kernel_rfl)
noncomputable def cb_band_joined_L4 : Code := sub [1, 1, 1, 0, 1, 0, 0] code_65
theorem s_band_joined_L4 (g : C_band_joined) (n : Nat) : StepOk (E_band_joined g) g.N cb_band_joined_L4 sh_band_joined_L4 (LP_band_joined_L4 g) n := by intro ps; unfold LP_band_joined_L4; split; exact .inr fun R K => (by kernel_rfl); exact .inl fun R K => rfl
theorem lf_band_joined_L4 [Fuel] : LoopFine (E_band_joined I_band_joined) NN cb_band_joined_L4 := fine_loop sh_band_joined_L4 (LP_band_joined_L4 I_band_joined) (by kernel_rfl) ct_band_joined (cuts0 (fun _ => rfl) (by kernel_rfl)) (fun ps R K => by unfold LP_band_joined_L4; split <;> (try unfold band_joined_L4) <;> rfl) (s_band_joined_L4 I_band_joined)
theorem sm_band_joined (g : C_band_joined) : Same (SS_band_joined (@band_joined_ g)) (abody (E_band_joined g) Tryz.f65 code_65 5 [0] [.arr 39] g.N) := by intro args; unfold SS_band_joined; split; exact .inr fun R k => (by kernel_rfl); exact .inl fun R k => rfl
theorem ok_band_joined [Fuel] : Ok 65 (SS_band_joined (@band_joined _)) := okF_of std (.cons ok_slices_SortFunc__Row_band_joined_1 .nil) ⟨rfl, rfl, by kernel_rfl, rfl, rfl, rfl⟩ (sm_band_joined I_band_joined) (cutsL (fun _ => rfl) (.cons lf_band_joined_L4 .nil) (by kernel_rfl)) Tryz.func65 (by kernel_rfl) (by kernel_rfl)
abbrev T_band_permitted : Type 1 := List G_Segment → List UInt8 → Int → Int → {R : Type} → (List G_Row → Option R) → Option R
structure C_band_permitted where
 N : Nat
 slices_Contains__int : T_slices_Contains__int
 kit_Has : T_kit_Has
 band_joined : T_band_joined
def band_permitted_L3 (g : C_band_permitted) : Nat → List UInt8 → Int → Int → List G_Segment → Int → Int → List G_Row → {R : Type} → (List G_Row → Option R) → Option R
 | 0, _, _, _, _, _, _, _, _, _ => none
 | n + 1, v5, v6, v7, v8, v9, v10, v11, _, e0 => (bif (decide (v10 < v9)) then (get_ v8 v10 fun x16 => (bif (x16.f_Class == v5) then (bif (v6 == 0) then (g.kit_Has x16.f_Time v7 (fun r17 => (bif r17 then (bif (decide ((v11.length + [(⟨x16.f_Low, x16.f_High⟩ : G_Row)].length) * 16 ≤ roomBytes')) then band_permitted_L3 g n v5 v6 v7 v8 v9 (w64 (v10 + 1)) (v11 ++ [(⟨x16.f_Low, x16.f_High⟩ : G_Row)]) e0 else none) else band_permitted_L3 g n v5 v6 v7 v8 v9 (w64 (v10 + 1)) v11 e0))) else (g.slices_Contains__int x16.f_Modes v6 (fun r18 => (bif r18 then (g.kit_Has x16.f_Time v7 (fun r19 => (bif r19 then (bif (decide ((v11.length + [(⟨x16.f_Low, x16.f_High⟩ : G_Row)].length) * 16 ≤ roomBytes')) then band_permitted_L3 g n v5 v6 v7 v8 v9 (w64 (v10 + 1)) (v11 ++ [(⟨x16.f_Low, x16.f_High⟩ : G_Row)]) e0 else none) else band_permitted_L3 g n v5 v6 v7 v8 v9 (w64 (v10 + 1)) v11 e0))) else band_permitted_L3 g n v5 v6 v7 v8 v9 (w64 (v10 + 1)) v11 e0)))) else band_permitted_L3 g n v5 v6 v7 v8 v9 (w64 (v10 + 1)) v11 e0)) else e0 v11)
def band_permitted_ (g : C_band_permitted) (a1 : List G_Segment) (a2 : List UInt8) (a3 a4 : Int) {R : Type} (k0 : List G_Row → Option R) : Option R :=
 (band_permitted_L3 g g.N a2 a3 a4 a1 (a1.length : Int) 0 [] (fun e20 => (g.band_joined e20 (fun r21 => k0 r21))))
noncomputable def I_band_permitted [Fuel] : C_band_permitted := ⟨NN, @slices_Contains__int _, @kit_Has _, @band_joined _⟩
noncomputable def band_permitted [Fuel] : T_band_permitted := @band_permitted_ I_band_permitted
def SS_band_permitted (g : T_band_permitted) : Spec A := fun args => match args with | [.d (.sl 66 a1), .d (.str a2), .d (.int .i64 a3), .d (.int .i64 a4)] => fun k => g a1 a2 a3 a4 (fun z0 => k (.arr 39 z0) [.undef, .undef, .undef, .undef]) | _ => fun _ => none
def sh_band_permitted_L3 : SSt := mkSh 49 5 [(1, .str), (2, .int .i64), (3, .int .i64), (9, .own 39 0), (12, .sl 66), (13, .int .i64), (14, .int .i64)] [(0, .row 39)]
def LP_band_permitted_L3 (g : C_band_permitted) (n : Nat) : LPT A := fun ps => match ps with | [.d (.str p1), .d (.int .i64 p2), .d (.int .i64 p3), .d (.sl 66 p4), .d (.int .i64 p5), .d (.int .i64 p6), .d (.sl 39 p7)] => fun K => band_permitted_L3 g n p1 p2 p3 p4 p5 p6 p7 (fun z0 => K (.exit 0) (mkSt 49 5 [(9, .own 39 0)] [(0, some (.row 39 z0))])) | _ => fun _ => none
noncomputable def code_43 : Code := (Tryz.f43.body).getD .skip
noncomputable def E_band_permitted (g : C_band_permitted) : Env A := mkE [(18, SS_slices_Contains__int g.slices_Contains__int), (63, SS_kit_Has g.kit_Has), (65, SS_band_joined g.band_joined)] [(11, [1]), (44, [2]), (45, [3]), (48, [4])] [(3, ⟨[1, 2, 3, 9, 12, 13, 14], [(9, 39, 0)], [], []⟩)] [(3, ⟨[9], [], [0], []⟩)] [(3, pieceOf sh_band_permitted_L3 (LP_band_permitted_L3 g g.N))] [] [] [] [(65, 0)] []
theorem ct_band_permitted [Fuel] : NatTab (E_band_permitted I_band_permitted).C := ct_of (P := Tryz.prog) (T := T) (.cons ok_slices_Contains__int (.cons ok_kit_Has (.cons ok_band_joined .nil))) (by kernel_rfl)
noncomputable def cb_band_permitted_L3 : Code := sub [1, 1, 0, 1, 0, 0] code_43
theorem s_band_permitted_L3 (g : C_band_permitted) (n : Nat) : StepOk (E_band_permitted g) g.N cb_band_permitted_L3 sh_band_permitted_L3 (LP_band_permitted_L3 g) n := by intro ps; unfold LP_band_permitted_L3; split; exact .inr fun R K => (by kernel_rfl); exact .inl fun R K => rfl
theorem lf_band_permitted_L3 [Fuel] : LoopFine (E_band_permitted I_band_permitted) NN cb_band_permitted_L3 := fine_loop sh_band_permitted_L3 (LP_band_permitted_L3 I_band_permitted) (by kernel_rfl) ct_band_permitted (cuts0 (fun _ => rfl) (by kernel_rfl)) (fun ps R K => by unfold LP_band_permitted_L3; split <;> (try unfold band_permitted_L3) <;> rfl) (s_band_permitted_L3 I_band_permitted)
theorem sm_band_permitted (g : C_band_permitted) : Same (SS_band_permitted (@band_permitted_ g)) (abody (E_band_permitted g) Tryz.f43 code_43 5 [] [.arr 39] g.N) := by intro args; unfold SS_band_permitted; split; exact .inr fun R k => (by kernel_rfl); exact .inl fun R k => rfl
theorem ok_band_permitted [Fuel] : Ok 43 (SS_band_permitted (@band_permitted _)) := okF_of std (.cons ok_slices_Contains__int (.cons ok_kit_Has (.cons ok_band_joined .nil))) ⟨rfl, rfl, by kernel_rfl, rfl, rfl, rfl⟩ (sm_band_permitted I_band_permitted) (cutsL (fun _ => rfl) (.cons lf_band_permitted_L3 .nil) (by kernel_rfl)) Tryz.func43 (by kernel_rfl) (by kernel_rfl)
abbrev T_band_used : Type 1 := Int → Int → {R : Type} → (G_Row → Option R) → Option R
def band_used_ (g : Nat) (a1 a2 : Int) {R : Type} (k0 : G_Row → Option R) : Option R :=
 k0 (⟨(w64 (a1 - (w64 (Int.tdiv a2 2)))), (w64 ((w64 (a1 - (w64 (Int.tdiv a2 2)))) + a2))⟩ : G_Row)
noncomputable def band_used [Fuel] : T_band_used := @band_used_ NN
def SS_band_used (g : T_band_used) : Spec A := fun args => match args with | [.d (.int .i64 a1), .d (.int .i64 a2)] => fun k => g a1 a2 (fun z0 => k (.agg [.d (.int .i64 z0.f_From), .d (.int .i64 z0.f_To)]) [.undef, .undef]) | _ => fun _ => none
noncomputable def code_42 : Code := (Tryz.f42.body).getD .skip
noncomputable def E_band_used (g : Nat) : Env A := mkE [] [(4, [0])] [] [] [] [] [] [] [] []
theorem sm_band_used (g : Nat) : Same (SS_band_used (@band_used_ g)) (abody (E_band_used g) Tryz.f42 code_42 1 [] [.asis] g) := by intro args; unfold SS_band_used; split; exact .inr fun R k => (by kernel_rfl); exact .inl fun R k => rfl
theorem ok_band_used [Fuel] : Ok 42 (SS_band_used (@band_used _)) := okF_of std .nil ⟨rfl, rfl, by kernel_rfl, rfl, rfl, rfl⟩ (sm_band_used NN) (cuts0 (fun _ => rfl) (by kernel_rfl)) Tryz.func42 (by kernel_rfl) (by kernel_rfl)
abbrev T_band_without : Type 1 := List G_Row → List G_Row → {R : Type} → (List G_Row → Option R) → Option R
def band_without_L7 (g : Nat) : Nat → List G_Row → Int → List G_Row → Int → Int → List G_Row → Int → Int → G_Row → List G_Row → {R : Type} → (List G_Row → Int → List G_Row → Int → Int → G_Row → List G_Row → Option R) → Option R
 | 0, _, _, _, _, _, _, _, _, _, _, _, _ => none
 | n + 1, v29, v30, v31, v32, v33, v34, v35, v36, v37, v38, _, e0 => (bif (decide (v36 < v35)) then (get_ v34 v36 fun x40 => (bif (decide (x40.f_To ≤ v30)) then band_without_L7 g n v29 v30 v31 v32 v33 v34 v35 (w64 (v36 + 1)) v37 v38 e0 else (bif (decide (x40.f_From ≥ v37.f_To)) then band_without_L7 g n v29 v30 v31 v32 v33 v34 v35 (w64 (v36 + 1)) v37 v38 e0 else (bif (decide (x40.f_From > v30)) then (bif (decide ((v38.length + [(⟨v30, x40.f_From⟩ : G_Row)].length) * 16 ≤ roomBytes')) then band_without_L7 g n v29 x40.f_To v31 v32 v33 v34 v35 (w64 (v36 + 1)) v37 (v38 ++ [(⟨v30, x40.f_From⟩ : G_Row)]) e0 else none) else band_without_L7 g n v29 x40.f_To v31 v32 v33 v34 v35 (w64 (v36 + 1)) v37 v38 e0)))) else e0 v29 v30 v31 v32 v33 v37 v38)
def band_without_L3 (g : Nat) : Nat → List G_Row → List G_Row → Int → Int → List G_Row → {R : Type} → (List G_Row → Option R) → Option R
 | 0, _, _, _, _, _, _, _ => none
 | n + 1, v3, v4, v5, v6, v7, _, e0 => (bif (decide (v6 < v5)) then (get_ v4 v6 fun x28 => (band_without_L7 g g v3 x28.f_From v4 v5 v6 v3 (v3.length : Int) 0 x28 v7 (fun e41 e42 e43 e44 e45 e46 e47 => (bif (decide (e42 < e46.f_To)) then (bif (decide ((e47.length + [(⟨e42, e46.f_To⟩ : G_Row)].length) * 16 ≤ roomBytes')) then band_without_L3 g n e41 e43 e44 (w64 (e45 + 1)) (e47 ++ [(⟨e42, e46.f_To⟩ : G_Row)]) e0 else none) else band_without_L3 g n e41 e43 e44 (w64 (e45 + 1)) e47 e0)))) else e0 v7)
def band_without_ (g : Nat) (a1 a2 : List G_Row) {R : Type} (k0 : List G_Row → Option R) : Option R :=
 (band_without_L3 g g a2 a1 (a1.length : Int) 0 [] (fun e48 => k0 e48))
noncomputable def band_without [Fuel] : T_band_without := @band_without_ NN
def SS_band_without (g : T_band_without) : Spec A := fun args => match args with | [.d (.sl 39 a1), .d (.sl 39 a2)] => fun k => g a1 a2 (fun z0 => k (.arr 39 z0) [.undef, .undef]) | _ => fun _ => none
def sh_band_without_L7 : SSt := mkSh 63 8 [(1, .sl 39), (5, .own 39 2), (7, .ptr 1 0), (8, .int .i64), (11, .sl 39), (12, .int .i64), (13, .int .i64), (19, .sl 39), (20, .int .i64), (21, .int .i64)] [(1, .box [.int .i64, .int .i64]), (2, .row 39)]
def LP_band_without_L7 (g : Nat) (n : Nat) : LPT A := fun ps => match ps with | [.d (.sl 39 p1), .d (.int .i64 p2), .d (.sl 39 p3), .d (.int .i64 p4), .d (.int .i64 p5), .d (.sl 39 p6), .d (.int .i64 p7), .d (.int .i64 p8), .d (.int .i64 p9), .d (.int .i64 p10), .d (.sl 39 p11)] => fun K => band_without_L7 g n p1 p2 p3 p4 p5 p6 p7 p8 ⟨p9, p10⟩ p11 (fun z0 z1 z2 z3 z4 z5 z6 => K (.exit 2) (mkSt 63 8 [(1, .d (.sl 39 z0)), (5, .own 39 2), (7, .ptr 1 0), (8, .d (.int .i64 z1)), (11, .d (.sl 39 z2)), (12, .d (.int .i64 z3)), (13, .d (.int .i64 z4))] [(1, some (.box [.d (.int .i64 z5.f_From), .d (.int .i64 z5.f_To)])), (2, some (.row 39 z6))])) | _ => fun _ => none
def sh_band_without_L3 : SSt := mkSh 63 8 [(1, .sl 39), (5, .own 39 0), (11, .sl 39), (12, .int .i64), (13, .int .i64)] [(0, .row 39)]
def LP_band_without_L3 (g : Nat) (n : Nat) : LPT A := fun ps => match ps with | [.d (.sl 39 p1), .d (.sl 39 p2), .d (.int .i64 p3), .d (.int .i64 p4), .d (.sl 39 p5)] => fun K => band_without_L3 g n p1 p2 p3 p4 p5 (fun z0 => K (.exit 0) (mkSt 63 8 [(5, .own 39 0)] [(0, some (.row 39 z0))])) | _ => fun _ => none
noncomputable def code_64 : Code := (Tryz.f64.body).getD .skip
noncomputable def E_band_without (g : Nat) : Env A := mkE [] [(7, [1]), (10, [3]), (45, [4]), (46, [5]), (59, [6]), (60, [7])] [(7, ⟨[1, 5, 7, 8, 11, 12, 13, 19, 20, 21], [(5, 39, 2)], [1], []⟩), (3, ⟨[1, 5, 11, 12, 13], [(5, 39, 0)], [], []⟩)] [(7, ⟨[1, 5, 7, 8, 11, 12, 13], [], [1, 2], []⟩), (3, ⟨[5], [], [0], []⟩)] [(7, pieceOf sh_band_without_L7 (LP_band_without_L7 g g)), (3, pieceOf sh_band_without_L3 (LP_band_without_L3 g g))] [] [] [] [] []
theorem ct_band_without [Fuel] : NatTab (E_band_without NN).C := ct_of (P := Tryz.prog) (T := T) .nil (by kernel_rfl)
noncomputable def cb_band_without_L7 : Code := sub [1, 1, 0, 1, 0, 0, 1, 1, 0, 0, 1, 1, 0, 1, 0, 0] code_64
theorem s_band_without_L7 (g : Nat) (n : Nat) : StepOk (E_band_without g) g cb_band_without_L7 sh_band_without_L7 (LP_band_without_L7 g) n := by intro ps; unfold LP_band_without_L7; split; exact .inr fun R K => (by kernel_rfl); exact .inl fun R K => rfl
theorem lf_band_without_L7 [Fuel] : LoopFine (E_band_without NN) NN cb_band_without_L7 := fine_loop sh_band_without_L7 (LP_band_without_L7 NN) (by kernel_rfl) ct_band_without (cuts0 (fun _ => rfl) (by kernel_rfl)) (fun ps R K => by unfold LP_band_without_L7; split <;> (try unfold band_without_L7) <;> rfl) (s_band_without_L7 NN)
noncomputable def cb_band_without_L3 : Code := sub [1, 1, 0, 1, 0, 0] code_64
theorem s_band_without_L3 (g : Nat) (n : Nat) : StepOk (E_band_without g) g cb_band_without_L3 sh_band_without_L3 (LP_band_without_L3 g) n := by intro ps; unfold LP_band_without_L3; split; exact .inr fun R K => (by kernel_rfl); exact .inl fun R K => rfl
theorem lf_band_without_L3 [Fuel] : LoopFine (E_band_without NN) NN cb_band_without_L3 := fine_loop sh_band_without_L3 (LP_band_without_L3 NN) (by kernel_rfl) ct_band_without (cutsL (fun _ => rfl) (.cons lf_band_without_L7 .nil) (by kernel_rfl)) (fun ps R K => by unfold LP_band_without_L3; split <;> (try unfold band_without_L3) <;> rfl) (s_band_without_L3 NN)
theorem sm_band_without (g : Nat) : Same (SS_band_without (@band_without_ g)) (abody (E_band_without g) Tryz.f64 code_64 8 [] [.arr 39] g) := by intro args; unfold SS_band_without; split; exact .inr fun R k => (by kernel_rfl); exact .inl fun R k => rfl
theorem ok_band_without [Fuel] : Ok 64 (SS_band_without (@band_without _)) := okF_of std .nil ⟨rfl, rfl, by kernel_rfl, rfl, rfl, rfl⟩ (sm_band_without NN) (cutsL (fun _ => rfl) (.cons lf_band_without_L7 (.cons lf_band_without_L3 .nil)) (by kernel_rfl)) Tryz.func64 (by kernel_rfl) (by kernel_rfl)
abbrev T_band_free : Type 1 := List G_Segment → List G_Busy → List UInt8 → Int → Int → Int → {R : Type} → (List G_Row → Option R) → Option R
structure C_band_free where
 N : Nat
 band_used : T_band_used
 band_permitted : T_band_permitted
 kit_Has : T_kit_Has
 band_without : T_band_without
 band_joined : T_band_joined
def band_free_L3 (g : C_band_free) : Nat → List G_Busy → Int → Int → Int → Int → List G_Row → List G_Row → {R : Type} → (List G_Busy → Int → Int → List G_Row → Option R) → Option R
 | 0, _, _, _, _, _, _, _, _, _ => none
 | n + 1, v8, v9, v10, v11, v12, v13, v14, _, e0 => (bif (decide (v12 < v11)) then (inr v13 v12 (at_ v13 v12 fun x16 => (bif (decide ((w64 (x16.f_To - x16.f_From)) ≥ v9)) then (bif (decide ((v14.length + [(⟨(w64 (x16.f_From + (w64 (Int.tdiv v9 2)))), (w64 ((w64 ((w64 (x16.f_To - v9)) + (w64 (Int.tdiv v9 2)))) + 1))⟩ : G_Row)].length) * 16 ≤ roomBytes')) then band_free_L3 g n v8 v9 v10 v11 (w64 (v12 + 1)) v13 (v14 ++ [(⟨(w64 (x16.f_From + (w64 (Int.tdiv v9 2)))), (w64 ((w64 ((w64 (x16.f_To - v9)) + (w64 (Int.tdiv v9 2)))) + 1))⟩ : G_Row)]) e0 else none) else band_free_L3 g n v8 v9 v10 v11 (w64 (v12 + 1)) v13 v14 e0))) else e0 v8 v9 v10 v14)
def band_free_L9 (g : C_band_free) : Nat → Int → Int → List G_Busy → Int → Int → List G_Row → List G_Row → {R : Type} → (List G_Row → List G_Row → Option R) → Option R
 | 0, _, _, _, _, _, _, _, _, _ => none
 | n + 1, v21, v22, v23, v24, v25, v26, v27, _, e0 => (bif (decide (v25 < v24)) then (get_ v23 v25 fun x31 => (g.kit_Has x31.f_Time v22 (fun r32 => (bif r32 then (g.band_used x31.f_Hertz x31.f_Width (fun r33 => (bif (decide ((v27.length + [(⟨(w64 ((w64 ((w64 (r33.f_From - v21)) + (w64 (Int.tdiv v21 2)))) + 1)), (w64 (r33.f_To + (w64 (Int.tdiv v21 2))))⟩ : G_Row)].length) * 16 ≤ roomBytes')) then band_free_L9 g n v21 v22 v23 v24 (w64 (v25 + 1)) v26 (v27 ++ [(⟨(w64 ((w64 ((w64 (r33.f_From - v21)) + (w64 (Int.tdiv v21 2)))) + 1)), (w64 (r33.f_To + (w64 (Int.tdiv v21 2))))⟩ : G_Row)]) e0 else none))) else band_free_L9 g n v21 v22 v23 v24 (w64 (v25 + 1)) v26 v27 e0)))) else e0 v26 v27)
def band_free_ (g : C_band_free) (a1 : List G_Segment) (a2 : List G_Busy) (a3 : List UInt8) (a4 a5 a6 : Int) {R : Type} (k0 : List G_Row → Option R) : Option R :=
 (g.band_permitted a1 a3 a4 a6 (fun r7 => (band_free_L3 g g.N a2 a5 a6 (r7.length : Int) 0 r7 [] (fun e17 e18 e19 e20 => (band_free_L9 g g.N e18 e19 e17 (e17.length : Int) 0 e20 [] (fun e34 e35 => (g.band_joined e34 (fun r36 => (g.band_joined e35 (fun r37 => (g.band_without r36 r37 (fun r38 => k0 r38))))))))))))
noncomputable def I_band_free [Fuel] : C_band_free := ⟨NN, @band_used _, @band_permitted _, @kit_Has _, @band_without _, @band_joined _⟩
noncomputable def band_free [Fuel] : T_band_free := @band_free_ I_band_free
def SS_band_free (g : T_band_free) : Spec A := fun args => match args with | [.d (.sl 66 a1), .d (.sl 44 a2), .d (.str a3), .d (.int .i64 a4), .d (.int .i64 a5), .d (.int .i64 a6)] => fun k => g a1 a2 a3 a4 a5 a6 (fun z0 => k (.arr 39 z0) [.undef, .undef, .undef, .undef, .undef, .undef]) | _ => fun _ => none
def sh_band_free_L3 : SSt := mkSh 93 13 [(1, .sl 44), (4, .int .i64), (5, .int .i64), (13, .own 39 1), (14, .nsl), (24, .own 39 0), (25, .int .i64), (26, .int .i64)] [(0, .row 39), (1, .row 39)]
def LP_band_free_L3 (g : C_band_free) (n : Nat) : LPT A := fun ps => match ps with | [.d (.sl 44 p1), .d (.int .i64 p2), .d (.int .i64 p3), .d (.int .i64 p4), .d (.int .i64 p5), .d (.sl 39 p6), .d (.sl 39 p7)] => fun K => band_free_L3 g n p1 p2 p3 p4 p5 p6 p7 (fun z0 z1 z2 z3 => K (.exit 0) (mkSt 93 13 [(1, .d (.sl 44 z0)), (4, .d (.int .i64 z1)), (5, .d (.int .i64 z2)), (13, .own 39 1), (14, .d .nsl)] [(1, some (.row 39 z3))])) | _ => fun _ => none
def sh_band_free_L9 : SSt := mkSh 93 13 [(4, .int .i64), (5, .int .i64), (13, .own 39 1), (14, .own 39 5), (55, .sl 44), (56, .int .i64), (57, .int .i64)] [(1, .row 39), (5, .row 39)]
def LP_band_free_L9 (g : C_band_free) (n : Nat) : LPT A := fun ps => match ps with | [.d (.int .i64 p1), .d (.int .i64 p2), .d (.sl 44 p3), .d (.int .i64 p4), .d (.int .i64 p5), .d (.sl 39 p6), .d (.sl 39 p7)] => fun K => band_free_L9 g n p1 p2 p3 p4 p5 p6 p7 (fun z0 z1 => K (.exit 2) (mkSt 93 13 [(13, .own 39 1), (14, .own 39 5)] [(1, some (.row 39 z0)), (5, some (.row 39 z1))])) | _ => fun _ => none
noncomputable def code_32 : Code := (Tryz.f32.body).getD .skip
noncomputable def E_band_free (g : C_band_free) : Env A := mkE [(42, SS_band_used g.band_used), (43, SS_band_permitted g.band_permitted), (63, SS_kit_Has g.kit_Has), (64, SS_band_without g.band_without), (65, SS_band_joined g.band_joined)] [(16, [2]), (18, [6]), (19, [7]), (24, [0]), (52, [3]), (53, [4]), (85, [8]), (86, [9]), (89, [10]), (91, [11]), (92, [12])] [(3, ⟨[1, 4, 5, 13, 14, 24, 25, 26], [(13, 39, 1)], [0], []⟩), (9, ⟨[4, 5, 13, 14, 55, 56, 57], [(14, 39, 5)], [1], []⟩)] [(3, ⟨[1, 4, 5, 13, 14], [], [1], []⟩), (9, ⟨[13, 14], [], [1, 5], []⟩)] [(3, pieceOf sh_band_free_L3 (LP_band_free_L3 g g.N)), (9, pieceOf sh_band_free_L9 (LP_band_free_L9 g g.N))] [] [] [] [(65, 0)] []
theorem ct_band_free [Fuel] : NatTab (E_band_free I_band_free).C := ct_of (P := Tryz.prog) (T := T) (.cons ok_band_used (.cons ok_band_permitted (.cons ok_kit_Has (.cons ok_band_without (.cons ok_band_joined .nil))))) (by kernel_rfl)
noncomputable def cb_band_free_L3 : Code := sub [1, 1, 0, 1, 0, 0] code_32
theorem s_band_free_L3 (g : C_band_free) (n : Nat) : StepOk (E_band_free g) g.N cb_band_free_L3 sh_band_free_L3 (LP_band_free_L3 g) n := by intro ps; unfold LP_band_free_L3; split; exact .inr fun R K => (by kernel_rfl); exact .inl fun R K => rfl
theorem lf_band_free_L3 [Fuel] : LoopFine (E_band_free I_band_free) NN cb_band_free_L3 := fine_loop sh_band_free_L3 (LP_band_free_L3 I_band_free) (by kernel_rfl) ct_band_free (cuts0 (fun _ => rfl) (by kernel_rfl)) (fun ps R K => by unfold LP_band_free_L3; split <;> (try unfold band_free_L3) <;> rfl) (s_band_free_L3 I_band_free)
noncomputable def cb_band_free_L9 : Code := sub [1, 1, 1, 0, 1, 0, 0] code_32
theorem s_band_free_L9 (g : C_band_free) (n : Nat) : StepOk (E_band_free g) g.N cb_band_free_L9 sh_band_free_L9 (LP_band_free_L9 g) n := by intro ps; unfold LP_band_free_L9; split; exact .inr fun R K => (by kernel_rfl); exact .inl fun R K => rfl
theorem lf_band_free_L9 [Fuel] : LoopFine (E_band_free I_band_free) NN cb_band_free_L9 := fine_loop sh_band_free_L9 (LP_band_free_L9 I_band_free) (by kernel_rfl) ct_band_free (cuts0 (fun _ => rfl) (by kernel_rfl)) (fun ps R K => by unfold LP_band_free_L9; split <;> (try unfold band_free_L9) <;> rfl) (s_band_free_L9 I_band_free)
theorem sm_band_free (g : C_band_free) : Same (SS_band_free (@band_free_ g)) (abody (E_band_free g) Tryz.f32 code_32 13 [] [.arr 39] g.N) := by intro args; unfold SS_band_free; split; exact .inr fun R k => (by kernel_rfl); exact .inl fun R k => rfl
theorem ok_band_free [Fuel] : Ok 32 (SS_band_free (@band_free _)) := okF_of std (.cons ok_band_used (.cons ok_band_permitted (.cons ok_kit_Has (.cons ok_band_without (.cons ok_band_joined .nil))))) ⟨rfl, rfl, by kernel_rfl, rfl, rfl, rfl⟩ (sm_band_free I_band_free) (cutsL (fun _ => rfl) (.cons lf_band_free_L3 (.cons lf_band_free_L9 .nil)) (by kernel_rfl)) Tryz.func32 (by kernel_rfl) (by kernel_rfl)
abbrev T_band_Free : Type 1 := List G_Segment → List G_Busy → List UInt8 → Int → Int → Int → {R : Type} → (List G_Row → Int → Option R) → Option R
structure C_band_Free where
 N : Nat
 band_freeFault : T_band_freeFault
 band_free : T_band_free
def band_Free_ (g : C_band_Free) (a1 : List G_Segment) (a2 : List G_Busy) (a3 : List UInt8) (a4 a5 a6 : Int) {R : Type} (k0 : List G_Row → Int → Option R) : Option R :=
 (g.band_freeFault a1 a2 a3 a4 a5 a6 (fun r7 => (bif (r7 != 0) then k0 [] r7 else (g.band_free a1 a2 a3 a4 a5 a6 (fun r8 => k0 r8 0)))))
noncomputable def I_band_Free [Fuel] : C_band_Free := ⟨NN, @band_freeFault _, @band_free _⟩
noncomputable def band_Free [Fuel] : T_band_Free := @band_Free_ I_band_Free
def SS_band_Free (g : T_band_Free) : Spec A := fun args => match args with | [.d (.sl 66 a1), .d (.sl 44 a2), .d (.str a3), .d (.int .i64 a4), .d (.int .i64 a5), .d (.int .i64 a6)] => fun k => g a1 a2 a3 a4 a5 a6 (fun z0 z1 => k (.tup [.arr 39 z0, .d (.int .i64 z1)]) [.undef, .undef, .undef, .undef, .undef, .undef]) | _ => fun _ => none
noncomputable def code_8 : Code := (Tryz.f8.body).getD .skip
noncomputable def E_band_Free (g : C_band_Free) : Env A := mkE [(31, SS_band_freeFault g.band_freeFault), (32, SS_band_free g.band_free)] [(31, [0])] [] [] [] [] [] [] [] []
theorem sm_band_Free (g : C_band_Free) : Same (SS_band_Free (@band_Free_ g)) (abody (E_band_Free g) Tryz.f8 code_8 1 [] [.arr 39, .asis] g.N) := by intro args; unfold SS_band_Free; split; exact .inr fun R k => (by kernel_rfl); exact .inl fun R k => rfl
theorem ok_band_Free [Fuel] : Ok 8 (SS_band_Free (@band_Free _)) := okF_of std (.cons ok_band_freeFault (.cons ok_band_free .nil)) ⟨rfl, rfl, by kernel_rfl, rfl, rfl, rfl⟩ (sm_band_Free I_band_Free) (cuts0 (fun _ => rfl) (by kernel_rfl)) Tryz.func8 (by kernel_rfl) (by kernel_rfl)
abbrev T_band_Nearest_1 : Type 1 := Int → Int → {R : Type} → (Int → Int → Option R) → Option R
def band_Nearest_1_ (g : Nat) (a1 a2 : Int) {R : Type} (k0 : Int → Int → Option R) : Option R :=
 k0 (if (w64 (a2 - a1)) > (w64 (a1 - a2)) then (w64 (a2 - a1)) else (w64 (a1 - a2))) a2
noncomputable def band_Nearest_1 [Fuel] : T_band_Nearest_1 := @band_Nearest_1_ NN
def SS_band_Nearest_1 (g : T_band_Nearest_1) : Spec A := fun args => match args with | [.d (.int .i64 a1), .box [.d (.int .i64 a2)]] => fun k => g a1 a2 (fun z0 z1 => k (.d (.int .i64 z0)) [.undef, .box [.d (.int .i64 z1)]]) | _ => fun _ => none
noncomputable def code_34 : Code := (Tryz.f34.body).getD .skip
noncomputable def E_band_Nearest_1 (g : Nat) : Env A := mkE [] [] [] [] [] [] [] [] [] [1]
theorem sm_band_Nearest_1 (g : Nat) : Same (SS_band_Nearest_1 (@band_Nearest_1_ g)) (abody (E_band_Nearest_1 g) Tryz.f34 code_34 1 [0] [.asis] g) := by intro args; unfold SS_band_Nearest_1; split; exact .inr fun R k => (by kernel_rfl); exact .inl fun R k => rfl
theorem ok_band_Nearest_1 [Fuel] : Ok 34 (SS_band_Nearest_1 (@band_Nearest_1 _)) := okF_of std .nil ⟨rfl, rfl, by kernel_rfl, rfl, rfl, rfl⟩ (sm_band_Nearest_1 NN) (cuts0 (fun _ => rfl) (by kernel_rfl)) Tryz.func34 (by kernel_rfl) (by kernel_rfl)
abbrev T_band_Nearest : Type 1 := List G_Segment → List G_Busy → List UInt8 → Int → Int → Int → Int → {R : Type} → (Int → Bool → Int → Option R) → Option R
structure C_band_Nearest where
 N : Nat
 band_freeFault : T_band_freeFault
 band_free : T_band_free
 kit_Outside : T_kit_Outside
 band_Nearest_1 : T_band_Nearest_1
def band_Nearest_L9 (g : C_band_Nearest) : Nat → Int → Bool → Int → Int → Int → List G_Row → {R : Type} → (Int → Bool → Option R) → Option R
 | 0, _, _, _, _, _, _, _, _ => none
 | n + 1, v11, v12, v13, v14, v15, v16, _, e0 => (bif (decide (v14 < v13)) then (inr v16 v14 (at_ v16 v14 fun x22 => (bif (!v12) then band_Nearest_L9 g n (if (w64 (x22.f_To - 1)) < (if x22.f_From > v15 then x22.f_From else v15) then (w64 (x22.f_To - 1)) else (if x22.f_From > v15 then x22.f_From else v15)) true v13 (w64 (v14 + 1)) v15 v16 e0 else (g.band_Nearest_1 (if (w64 (x22.f_To - 1)) < (if x22.f_From > v15 then x22.f_From else v15) then (w64 (x22.f_To - 1)) else (if x22.f_From > v15 then x22.f_From else v15)) v15 (fun r23 r24 => (g.band_Nearest_1 v11 r24 (fun r25 r26 => (bif (decide (r23 < r25)) then band_Nearest_L9 g n (if (w64 (x22.f_To - 1)) < (if x22.f_From > v15 then x22.f_From else v15) then (w64 (x22.f_To - 1)) else (if x22.f_From > v15 then x22.f_From else v15)) true v13 (w64 (v14 + 1)) r26 v16 e0 else band_Nearest_L9 g n v11 v12 v13 (w64 (v14 + 1)) r26 v16 e0)))))))) else e0 v11 v12)
def band_Nearest_ (g : C_band_Nearest) (a1 : List G_Segment) (a2 : List G_Busy) (a3 : List UInt8) (a4 a5 a6 a7 : Int) {R : Type} (k0 : Int → Bool → Int → Option R) : Option R :=
 (g.band_freeFault a1 a2 a3 a4 a5 a6 (fun r8 => (bif (r8 != 0) then k0 0 false r8 else (g.kit_Outside a7 0 30000000000 (fun r9 => (bif r9 then k0 0 false 1 else (g.band_free a1 a2 a3 a4 a5 a6 (fun r10 => (band_Nearest_L9 g g.N 0 false (r10.length : Int) 0 a7 r10 (fun e27 e28 => k0 e27 e28 0))))))))))
noncomputable def I_band_Nearest [Fuel] : C_band_Nearest := ⟨NN, @band_freeFault _, @band_free _, @kit_Outside _, @band_Nearest_1 _⟩
noncomputable def band_Nearest [Fuel] : T_band_Nearest := @band_Nearest_ I_band_Nearest
def SS_band_Nearest (g : T_band_Nearest) : Spec A := fun args => match args with | [.d (.sl 66 a1), .d (.sl 44 a2), .d (.str a3), .d (.int .i64 a4), .d (.int .i64 a5), .d (.int .i64 a6), .d (.int .i64 a7)] => fun k => g a1 a2 a3 a4 a5 a6 a7 (fun z0 z1 z2 => k (.tup [.d (.int .i64 z0), .d (.bool z1), .d (.int .i64 z2)]) [.undef, .undef, .undef, .undef, .undef, .undef, .undef]) | _ => fun _ => none
def sh_band_Nearest_L9 : SSt := mkSh 72 3 [(13, .ptr 0 0), (18, .int .i64), (19, .bool), (20, .fn 34 [.ptr 0 0]), (43, .own 39 1), (44, .int .i64), (45, .int .i64)] [(0, .box [.int .i64]), (1, .row 39)]
def LP_band_Nearest_L9 (g : C_band_Nearest) (n : Nat) : LPT A := fun ps => match ps with | [.d (.int .i64 p1), .d (.bool p2), .d (.int .i64 p3), .d (.int .i64 p4), .d (.int .i64 p5), .d (.sl 39 p6)] => fun K => band_Nearest_L9 g n p1 p2 p3 p4 p5 p6 (fun z0 z1 => K (.exit 0) (mkSt 72 3 [(18, .d (.int .i64 z0)), (19, .d (.bool z1))] [])) | _ => fun _ => none
noncomputable def code_9 : Code := (Tryz.f9.body).getD .skip
noncomputable def E_band_Nearest (g : C_band_Nearest) : Env A := mkE [(31, SS_band_freeFault g.band_freeFault), (32, SS_band_free g.band_free), (33, SS_kit_Outside g.kit_Outside), (34, SS_band_Nearest_1 g.band_Nearest_1)] [(13, [0]), (22, [2]), (43, [1])] [(9, ⟨[13, 18, 19, 20, 43, 44, 45], [], [0, 1], []⟩)] [(9, ⟨[18, 19], [], [], []⟩)] [(9, pieceOf sh_band_Nearest_L9 (LP_band_Nearest_L9 g g.N))] [] [] [] [] []
theorem ct_band_Nearest [Fuel] : NatTab (E_band_Nearest I_band_Nearest).C := ct_of (P := Tryz.prog) (T := T) (.cons ok_band_freeFault (.cons ok_band_free (.cons ok_kit_Outside (.cons ok_band_Nearest_1 .nil)))) (by kernel_rfl)
noncomputable def cb_band_Nearest_L9 : Code := sub [1, 1, 1, 1, 1, 0, 1, 0, 0] code_9
theorem s_band_Nearest_L9 (g : C_band_Nearest) (n : Nat) : StepOk (E_band_Nearest g) g.N cb_band_Nearest_L9 sh_band_Nearest_L9 (LP_band_Nearest_L9 g) n := by intro ps; unfold LP_band_Nearest_L9; split; exact .inr fun R K => (by kernel_rfl); exact .inl fun R K => rfl
theorem lf_band_Nearest_L9 [Fuel] : LoopFine (E_band_Nearest I_band_Nearest) NN cb_band_Nearest_L9 := fine_loop sh_band_Nearest_L9 (LP_band_Nearest_L9 I_band_Nearest) (by kernel_rfl) ct_band_Nearest (cuts0 (fun _ => rfl) (by kernel_rfl)) (fun ps R K => by unfold LP_band_Nearest_L9; split <;> (try unfold band_Nearest_L9) <;> rfl) (s_band_Nearest_L9 I_band_Nearest)
theorem sm_band_Nearest (g : C_band_Nearest) : Same (SS_band_Nearest (@band_Nearest_ g)) (abody (E_band_Nearest g) Tryz.f9 code_9 3 [] [.asis, .asis, .asis] g.N) := by intro args; unfold SS_band_Nearest; split; exact .inr fun R k => (by kernel_rfl); exact .inl fun R k => rfl
theorem ok_band_Nearest [Fuel] : Ok 9 (SS_band_Nearest (@band_Nearest _)) := okF_of std (.cons ok_band_freeFault (.cons ok_band_free (.cons ok_kit_Outside (.cons ok_band_Nearest_1 .nil)))) ⟨rfl, rfl, by kernel_rfl, rfl, rfl, rfl⟩ (sm_band_Nearest I_band_Nearest) (cutsL (fun _ => rfl) (.cons lf_band_Nearest_L9 .nil) (by kernel_rfl)) Tryz.func9 (by kernel_rfl) (by kernel_rfl)
abbrev T_kit_IsName : Type 1 := List UInt8 → {R : Type} → (Bool → Option R) → Option R
structure C_kit_IsName where
 N : Nat
 kit_IsKey : T_kit_IsKey
def kit_IsName_ (g : C_kit_IsName) (a1 : List UInt8) {R : Type} (k0 : Bool → Option R) : Option R :=
 (bif (a1 == []) then k0 true else (g.kit_IsKey a1 (fun r2 => k0 r2)))
noncomputable def I_kit_IsName [Fuel] : C_kit_IsName := ⟨NN, @kit_IsKey _⟩
noncomputable def kit_IsName [Fuel] : T_kit_IsName := @kit_IsName_ I_kit_IsName
def SS_kit_IsName (g : T_kit_IsName) : Spec A := fun args => match args with | [.d (.str a1)] => fun k => g a1 (fun z0 => k (.d (.bool z0)) [.undef]) | _ => fun _ => none
noncomputable def code_119 : Code := (Tryz.f119.body).getD .skip
noncomputable def E_kit_IsName (g : C_kit_IsName) : Env A := mkE [(39, SS_kit_IsKey g.kit_IsKey)] [] [] [] [] [] [] [] [] []
theorem sm_kit_IsName (g : C_kit_IsName) : Same (SS_kit_IsName (@kit_IsName_ g)) (abody (E_kit_IsName g) Tryz.f119 code_119 0 [] [.asis] g.N) := by intro args; unfold SS_kit_IsName; split; exact .inr fun R k => (by kernel_rfl); exact .inl fun R k => rfl
theorem ok_kit_IsName [Fuel] : Ok 119 (SS_kit_IsName (@kit_IsName _)) := okF_of std (.cons ok_kit_IsKey .nil) ⟨rfl, rfl, by kernel_rfl, rfl, rfl, rfl⟩ (sm_kit_IsName I_kit_IsName) (cuts0 (fun _ => rfl) (by kernel_rfl)) Tryz.func119 (by kernel_rfl) (by kernel_rfl)
abbrev T_log_CheckContact : Type 1 := G_Contact → {R : Type} → (Int → Option R) → Option R
structure C_log_CheckContact where
 N : Nat
 kit_Outside : T_kit_Outside
 kit_IsKey : T_kit_IsKey
 kit_IsMode : T_kit_IsMode
 kit_IsMoment : T_kit_IsMoment
 call_Is : T_call_Is
 kit_IsName : T_kit_IsName
def log_CheckContact_ (g : C_log_CheckContact) (a1 : G_Contact) {R : Type} (k0 : Int → Option R) : Option R :=
 (g.kit_IsMoment a1.f_At (fun r2 => (bif (!r2) then k0 1 else (g.kit_IsMode a1.f_Mode (fun r3 => (bif (!r3) then k0 4 else (g.kit_IsKey a1.f_Band (fun r4 => (bif (!r4) then k0 5 else (g.call_Is a1.f_Call (fun r5 => (bif (!r5) then k0 3 else (g.kit_Outside a1.f_Sent 0 99999 (fun r6 => (bif r6 then k0 1 else (g.kit_Outside a1.f_Heard 0 99999 (fun r7 => (bif r7 then k0 1 else (g.kit_IsName a1.f_Gave (fun r8 => (bif (!r8) then k0 5 else (g.kit_IsName a1.f_Got (fun r9 => (bif (!r9) then k0 5 else k0 0))))))))))))))))))))))))
noncomputable def I_log_CheckContact [Fuel] : C_log_CheckContact := ⟨NN, @kit_Outside _, @kit_IsKey _, @kit_IsMode _, @kit_IsMoment _, @call_Is _, @kit_IsName _⟩
noncomputable def log_CheckContact [Fuel] : T_log_CheckContact := @log_CheckContact_ I_log_CheckContact
def SS_log_CheckContact (g : T_log_CheckContact) : Spec A := fun args => match args with | [.agg [.d (.int .i64 a1), .d (.int .i64 a2), .d (.str a3), .d (.str a4), .d (.int .i64 a5), .d (.int .i64 a6), .d (.str a7), .d (.str a8)]] => fun k => g ⟨a1, a2, a3, a4, a5, a6, a7, a8⟩ (fun z0 => k (.d (.int .i64 z0)) [.undef]) | _ => fun _ => none
noncomputable def code_84 : Code := (Tryz.f84.body).getD .skip
noncomputable def E_log_CheckContact (g : C_log_CheckContact) : Env A := mkE [(33, SS_kit_Outside g.kit_Outside), (39, SS_kit_IsKey g.kit_IsKey), (40, SS_kit_IsMode g.kit_IsMode), (41, SS_kit_IsMoment g.kit_IsMoment), (95, SS_call_Is g.call_Is), (119, SS_kit_IsName g.kit_IsName)] [(1, [0])] [] [] [] [] [] [] [] []
theorem sm_log_CheckContact (g : C_log_CheckContact) : Same (SS_log_CheckContact (@log_CheckContact_ g)) (abody (E_log_CheckContact g) Tryz.f84 code_84 1 [] [.asis] g.N) := by intro args; unfold SS_log_CheckContact; split; exact .inr fun R k => (by kernel_rfl); exact .inl fun R k => rfl
theorem ok_log_CheckContact [Fuel] : Ok 84 (SS_log_CheckContact (@log_CheckContact _)) := okF_of std (.cons ok_kit_Outside (.cons ok_kit_IsKey (.cons ok_kit_IsMode (.cons ok_kit_IsMoment (.cons ok_call_Is (.cons ok_kit_IsName .nil)))))) ⟨rfl, rfl, by kernel_rfl, rfl, rfl, rfl⟩ (sm_log_CheckContact I_log_CheckContact) (cuts0 (fun _ => rfl) (by kernel_rfl)) Tryz.func84 (by kernel_rfl) (by kernel_rfl)
end Go.Am
