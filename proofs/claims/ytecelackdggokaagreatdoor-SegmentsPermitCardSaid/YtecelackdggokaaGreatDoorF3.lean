/- The functions of the program as Lean functions, each shown to be what the code computes, part 3. No condition: lemmas for the claim. -/
import Derived.Test.YtecelackdggokaaGreatDoorF0
import Derived.Test.YtecelackdggokaaGreatDoorFSh
import Derived.Test.YtecelackdggokaaGreatDoorF2
set_option linter.unusedVariables false
set_option maxRecDepth 100000
namespace Go.Am
open Go Go.Proofs
abbrev T_slices_Index__int : Type 1 := List Int → Int → {R : Type} → (Int → Option R) → Option R
def slices_Index__int_L2 (g : Nat) : Nat → List Int → Int → Int → Int → {R : Type} → (Int → Option R) → Option R → Option R
  | 0, _, _, _, _, _, _, _ => none
  | n + 1, v3, v4, v5, v6, _, e0, e1 => (bif (decide (v6 < v5)) then (get_ v3 v6 fun x8 => (bif (v4 == x8) then e0 v6 else slices_Index__int_L2 g n v3 v4 v5 (w64 (v6 + 1)) e0 e1)) else e1)
def slices_Index__int_ (g : Nat) (a1 : List Int) (a2 : Int) {R : Type} (k0 : Int → Option R) : Option R :=
  (slices_Index__int_L2 g g a1 a2 (a1.length : Int) 0 (fun e9 => k0 e9) (k0 (-1)))
noncomputable def slices_Index__int [Fuel] : T_slices_Index__int := @slices_Index__int_ NN
def SS_slices_Index__int (g : T_slices_Index__int) : Spec A := fun args => match args with | [.d (.sl 3 a1), .d (.int .i64 a2)] => fun k => g a1 a2 (fun z0 => k (.d (.int .i64 z0)) [.undef, .undef]) | _ => fun _ => none
def sh_slices_Index__int_L2 : SSt := mkSh 19 0 [(0, .sl 3), (1, .int .i64), (7, .int .i64), (8, .int .i64)] []
def LP_slices_Index__int_L2 (g : Nat) (n : Nat) : LPT A := fun ps => match ps with | [.d (.sl 3 p1), .d (.int .i64 p2), .d (.int .i64 p3), .d (.int .i64 p4)] => fun K => slices_Index__int_L2 g n p1 p2 p3 p4 (fun z0 => K .ret (mkSt 19 0 [(4, .d (.int .i64 z0))] [])) (K (.exit 0) (mkSt 19 0 [] [])) | _ => fun _ => none
noncomputable def code_284 : Code := (Tryz.f284.body).getD .skip
noncomputable def E_slices_Index__int (g : Nat) : Env A := mkE [] [] [(2, ⟨[0, 1, 7, 8], [], [], []⟩)] [(2, ⟨[4], [], [], []⟩)] [(2, pieceOf sh_slices_Index__int_L2 (LP_slices_Index__int_L2 g g))] [] [] [] [] []
theorem ct_slices_Index__int [Fuel] : NatTab (E_slices_Index__int NN).C := ct_of (P := Tryz.prog) (T := T) .nil (by kernel_rfl)
noncomputable def cb_slices_Index__int_L2 : Code := sub [1, 0, 1, 0, 0] code_284
theorem s_slices_Index__int_L2 (g : Nat) (n : Nat) : StepOk (E_slices_Index__int g) g cb_slices_Index__int_L2 sh_slices_Index__int_L2 (LP_slices_Index__int_L2 g) n := by intro ps; unfold LP_slices_Index__int_L2; split; exact .inr fun R K => (by kernel_rfl); exact .inl fun R K => rfl
theorem lf_slices_Index__int_L2 [Fuel] : LoopFine (E_slices_Index__int NN) NN cb_slices_Index__int_L2 := fine_loop sh_slices_Index__int_L2 (LP_slices_Index__int_L2 NN) (by kernel_rfl) ct_slices_Index__int (cuts0 (fun _ => rfl) (by kernel_rfl)) (fun ps R K => by unfold LP_slices_Index__int_L2; split <;> (try unfold slices_Index__int_L2) <;> rfl) (s_slices_Index__int_L2 NN)
theorem sm_slices_Index__int (g : Nat) : Same (SS_slices_Index__int (@slices_Index__int_ g)) (abody (E_slices_Index__int g) Tryz.f284 code_284 0 [] [.asis] g) := by intro args; unfold SS_slices_Index__int; split; exact .inr fun R k => (by kernel_rfl); exact .inl fun R k => rfl
theorem ok_slices_Index__int [Fuel] : Ok 284 (SS_slices_Index__int (@slices_Index__int _)) := okF_of std .nil ⟨rfl, rfl, by kernel_rfl, rfl, rfl⟩ (sm_slices_Index__int NN) (cutsL (fun _ => rfl) (.cons lf_slices_Index__int_L2 .nil) (by kernel_rfl)) Tryz.func284 (by kernel_rfl) (by kernel_rfl)
abbrev T_slices_Contains__int : Type 1 := List Int → Int → {R : Type} → (Bool → Option R) → Option R
structure C_slices_Contains__int where
  N : Nat
  slices_Index__int : T_slices_Index__int
def slices_Contains__int_ (g : C_slices_Contains__int) (a1 : List Int) (a2 : Int) {R : Type} (k0 : Bool → Option R) : Option R :=
  (g.slices_Index__int a1 a2 (fun r3 => k0 (decide (r3 ≥ 0))))
noncomputable def I_slices_Contains__int [Fuel] : C_slices_Contains__int := ⟨NN, @slices_Index__int _⟩
noncomputable def slices_Contains__int [Fuel] : T_slices_Contains__int := @slices_Contains__int_ I_slices_Contains__int
def SS_slices_Contains__int (g : T_slices_Contains__int) : Spec A := fun args => match args with | [.d (.sl 3 a1), .d (.int .i64 a2)] => fun k => g a1 a2 (fun z0 => k (.d (.bool z0)) [.undef, .undef]) | _ => fun _ => none
noncomputable def code_200 : Code := (Tryz.f200.body).getD .skip
noncomputable def E_slices_Contains__int (g : C_slices_Contains__int) : Env A := mkE [(284, SS_slices_Index__int g.slices_Index__int)] [] [] [] [] [] [] [] [] []
theorem sm_slices_Contains__int (g : C_slices_Contains__int) : Same (SS_slices_Contains__int (@slices_Contains__int_ g)) (abody (E_slices_Contains__int g) Tryz.f200 code_200 0 [] [.asis] g.N) := by intro args; unfold SS_slices_Contains__int; split; exact .inr fun R k => (by kernel_rfl); exact .inl fun R k => rfl
theorem ok_slices_Contains__int [Fuel] : Ok 200 (SS_slices_Contains__int (@slices_Contains__int _)) := okF_of std (.cons ok_slices_Index__int .nil) ⟨rfl, rfl, by kernel_rfl, rfl, rfl⟩ (sm_slices_Contains__int I_slices_Contains__int) (cuts0 (fun _ => rfl) (by kernel_rfl)) Tryz.func200 (by kernel_rfl) (by kernel_rfl)
abbrev T_band_joined_1 : Type 1 := G_Row → G_Row → {R : Type} → (Int → Option R) → Option R
def band_joined_1_ (g : Nat) (a1 a2 : G_Row) {R : Type} (k0 : Int → Option R) : Option R :=
  k0 (w64 (a1.f_From - a2.f_From))
noncomputable def band_joined_1 [Fuel] : T_band_joined_1 := @band_joined_1_ NN
def SS_band_joined_1 (g : T_band_joined_1) : Spec A := fun args => match args with | [.agg [.d (.int .i64 a1), .d (.int .i64 a2)], .agg [.d (.int .i64 a3), .d (.int .i64 a4)]] => fun k => g ⟨a1, a2⟩ ⟨a3, a4⟩ (fun z0 => k (.d (.int .i64 z0)) [.undef, .undef]) | _ => fun _ => none
noncomputable def code_286 : Code := (Tryz.f286.body).getD .skip
noncomputable def E_band_joined_1 (g : Nat) : Env A := mkE [] [(2, [0]), (3, [1])] [] [] [] [] [] [] [] []
theorem sm_band_joined_1 (g : Nat) : Same (SS_band_joined_1 (@band_joined_1_ g)) (abody (E_band_joined_1 g) Tryz.f286 code_286 2 [] [.asis] g) := by intro args; unfold SS_band_joined_1; split; exact .inr fun R k => (by kernel_rfl); exact .inl fun R k => rfl
theorem ok_band_joined_1 [Fuel] : Ok 286 (SS_band_joined_1 (@band_joined_1 _)) := okF_of std .nil ⟨rfl, rfl, by kernel_rfl, rfl, rfl⟩ (sm_band_joined_1 NN) (cuts0 (fun _ => rfl) (by kernel_rfl)) Tryz.func286 (by kernel_rfl) (by kernel_rfl)
noncomputable def Ed_band_joined_1 (g : Nat) : Env A := mkED [] [(2, [0]), (3, [1])] [] [] [] [] [] [] [] []
theorem smd_band_joined_1 (g : Nat) : Same (SS_band_joined_1 (@band_joined_1_ g)) (abody (Ed_band_joined_1 g) Tryz.f286 code_286 2 [] [.asis] g) := by intro args; unfold SS_band_joined_1; split; exact .inr fun R k => (by kernel_rfl); exact .inl fun R k => rfl
theorem okd_band_joined_1 [Fuel] : OkD 286 (SS_band_joined_1 (@band_joined_1 _)) := okF_of stdD .nil ⟨rfl, rfl, by kernel_rfl, rfl, rfl⟩ (smd_band_joined_1 NN) (cuts0 (fun _ => rfl) (by kernel_rfl)) Tryz.func286 (by kernel_rfl) (by kernel_rfl)
abbrev T_slices_SortFunc__Row_band_joined_1 : Type 1 := List G_Row → {R : Type} → (List G_Row → Option R) → Option R
noncomputable def slices_SortFunc__Row_band_joined_1 [Fuel] : T_slices_SortFunc__Row_band_joined_1 := @X_sortf G_Row (@band_joined_1 _)
def SS_slices_SortFunc__Row_band_joined_1 (g : T_slices_SortFunc__Row_band_joined_1) : Spec A := fun args => match args with | [.arr 98 a1, .fn 286 []] => fun k => g a1 (fun z => k (.tup []) [.arr 98 z, .fn 286 []]) | _ => fun _ => none
theorem h1_slices_SortFunc__Row_band_joined_1 [Fuel] (xs : List (A 98)) (R : Type) (k : IV A → List (IV A) → Option R) : SS_slices_SortFunc__Row_band_joined_1 (@slices_SortFunc__Row_band_joined_1 _) [.arr 98 xs, .fn 286 []] k = X_sortf (α := A 98) (@band_joined_1 _) xs (fun z => k (.tup []) [.arr 98 z, .fn 286 []]) := by kernel_rfl
theorem h2_slices_SortFunc__Row_band_joined_1 [Fuel] (args : List (IV A)) (R : Type) (k : IV A → List (IV A) → Option R) (h : ∀ xs : List (A 98), args ≠ [.arr 98 xs, .fn 286 []]) : SS_slices_SortFunc__Row_band_joined_1 (@slices_SortFunc__Row_band_joined_1 _) args k = none := by unfold SS_slices_SortFunc__Row_band_joined_1; split; exact absurd rfl (h _); rfl
theorem hc_slices_SortFunc__Row_band_joined_1 [Fuel] (x y : A 98) (R : Type) (k : Int → Option R) : callOf T (SS_band_joined_1 (@band_joined_1 _)) 98 x y k = @band_joined_1 _ x y R k := by kernel_rfl
theorem hs_slices_SortFunc__Row_band_joined_1 (x : G_Row) : (enc_e98 x).all scal = true := rfl
theorem ok_slices_SortFunc__Row_band_joined_1 [Fuel] : Ok 285 (SS_slices_SortFunc__Row_band_joined_1 (@slices_SortFunc__Row_band_joined_1 _)) := ⟨sortf_sound (tyOk Tryz.prog) (e := 98) Tryz.sortf285 Tryz.isAgg98 Tryz.sizeOf98 (fun x d hd => List.all_eq_true.1 (hs_slices_SortFunc__Row_band_joined_1 x) d hd) hc_slices_SortFunc__Row_band_joined_1 okd_band_joined_1.fs okd_band_joined_1.en h1_slices_SortFunc__Row_band_joined_1 h2_slices_SortFunc__Row_band_joined_1, sortf_na (e := 98) h1_slices_SortFunc__Row_band_joined_1 h2_slices_SortFunc__Row_band_joined_1, enters_of (fn := Tryz.f285) Tryz.func285 (by kernel_rfl) (by kernel_rfl)⟩
abbrev T_band_joined : Type 1 := List G_Row → {R : Type} → (List G_Row → Option R) → Option R
structure C_band_joined where
  N : Nat
  slices_SortFunc__Row_band_joined_1 : T_slices_SortFunc__Row_band_joined_1
def band_joined_L4 (g : C_band_joined) : Nat → Int → Int → List G_Row → List G_Row → {R : Type} → (List G_Row → Option R) → Option R
  | 0, _, _, _, _, _, _ => none
  | n + 1, v3, v4, v5, v6, _, e0 => (bif (decide (v4 < v3)) then (inr v5 v4 (at_ v5 v4 fun x11 => (bif (decide ((w64 ((v6.length : Int) - 1)) ≥ 0)) then (inr v6 (w64 ((v6.length : Int) - 1)) (at_ v6 (w64 ((v6.length : Int) - 1)) fun x12 => (bif (decide (x11.f_From ≤ x12.f_To)) then (inr v6 (w64 ((v6.length : Int) - 1)) (at_ v6 (w64 ((v6.length : Int) - 1)) fun x13 => (inr v6 (w64 ((v6.length : Int) - 1)) (at_ v6 (w64 ((v6.length : Int) - 1)) fun x14 => band_joined_L4 g n v3 (w64 (v4 + 1)) v5 (set_ v6 (w64 ((v6.length : Int) - 1)) (⟨x14.f_From, (if x11.f_To > x13.f_To then x11.f_To else x13.f_To)⟩ : G_Row)) e0)))) else (bif (decide ((v6.length + [x11].length) * 16 ≤ roomBytes')) then band_joined_L4 g n v3 (w64 (v4 + 1)) v5 (v6 ++ [x11]) e0 else none)))) else (bif (decide ((v6.length + [x11].length) * 16 ≤ roomBytes')) then band_joined_L4 g n v3 (w64 (v4 + 1)) v5 (v6 ++ [x11]) e0 else none)))) else e0 v6)
def band_joined_ (g : C_band_joined) (a1 : List G_Row) {R : Type} (k0 : List G_Row → Option R) : Option R :=
  (g.slices_SortFunc__Row_band_joined_1 a1 (fun r2 => (band_joined_L4 g g.N (r2.length : Int) 0 r2 [] (fun e15 => k0 e15))))
noncomputable def I_band_joined [Fuel] : C_band_joined := ⟨NN, @slices_SortFunc__Row_band_joined_1 _⟩
noncomputable def band_joined [Fuel] : T_band_joined := @band_joined_ I_band_joined
def SS_band_joined (g : T_band_joined) : Spec A := fun args => match args with | [.arr 98 a1] => fun k => g a1 (fun z0 => k (.arr 98 z0) [.undef]) | _ => fun _ => none
def sh_band_joined_L4 : SSt := mkSh 48 5 [(3, .own 98 1), (9, .own 98 0), (10, .int .i64), (11, .int .i64)] [(0, .row 98), (1, .row 98)]
def LP_band_joined_L4 (g : C_band_joined) (n : Nat) : LPT A := fun ps => match ps with | [.d (.int .i64 p1), .d (.int .i64 p2), .d (.sl 98 p3), .d (.sl 98 p4)] => fun K => band_joined_L4 g n p1 p2 p3 p4 (fun z0 => K (.exit 0) (mkSt 48 5 [(3, .own 98 1)] [(1, some (.row 98 z0))])) | _ => fun _ => none
noncomputable def code_202 : Code := (Tryz.f202.body).getD .skip
noncomputable def E_band_joined (g : C_band_joined) : Env A := mkE [(285, SS_slices_SortFunc__Row_band_joined_1 g.slices_SortFunc__Row_band_joined_1)] [(5, [2]), (44, [3]), (45, [4])] [(4, ⟨[3, 9, 10, 11], [(3, 98, 1)], [0], []⟩)] [(4, ⟨[3], [], [1], []⟩)] [(4, pieceOf sh_band_joined_L4 (LP_band_joined_L4 g g.N))] [] [] [] [(285, 0)] []
theorem ct_band_joined [Fuel] : NatTab (E_band_joined I_band_joined).C := ct_of (P := Tryz.prog) (T := T) (.cons ok_slices_SortFunc__Row_band_joined_1 .nil) (by kernel_rfl)
noncomputable def cb_band_joined_L4 : Code := sub [1, 1, 1, 0, 1, 0, 0] code_202
theorem s_band_joined_L4 (g : C_band_joined) (n : Nat) : StepOk (E_band_joined g) g.N cb_band_joined_L4 sh_band_joined_L4 (LP_band_joined_L4 g) n := by intro ps; unfold LP_band_joined_L4; split; exact .inr fun R K => (by kernel_rfl); exact .inl fun R K => rfl
theorem lf_band_joined_L4 [Fuel] : LoopFine (E_band_joined I_band_joined) NN cb_band_joined_L4 := fine_loop sh_band_joined_L4 (LP_band_joined_L4 I_band_joined) (by kernel_rfl) ct_band_joined (cuts0 (fun _ => rfl) (by kernel_rfl)) (fun ps R K => by unfold LP_band_joined_L4; split <;> (try unfold band_joined_L4) <;> rfl) (s_band_joined_L4 I_band_joined)
theorem sm_band_joined (g : C_band_joined) : Same (SS_band_joined (@band_joined_ g)) (abody (E_band_joined g) Tryz.f202 code_202 5 [0] [.arr 98] g.N) := by intro args; unfold SS_band_joined; split; exact .inr fun R k => (by kernel_rfl); exact .inl fun R k => rfl
theorem ok_band_joined [Fuel] : Ok 202 (SS_band_joined (@band_joined _)) := okF_of std (.cons ok_slices_SortFunc__Row_band_joined_1 .nil) ⟨rfl, rfl, by kernel_rfl, rfl, rfl⟩ (sm_band_joined I_band_joined) (cutsL (fun _ => rfl) (.cons lf_band_joined_L4 .nil) (by kernel_rfl)) Tryz.func202 (by kernel_rfl) (by kernel_rfl)
abbrev T_band_permitted : Type 1 := List G_Segment → List UInt8 → Int → Int → {R : Type} → (List G_Row → Option R) → Option R
structure C_band_permitted where
  N : Nat
  slices_Contains__int : T_slices_Contains__int
  kit_Has : T_kit_Has
  band_joined : T_band_joined
def band_permitted_L3 (g : C_band_permitted) : Nat → List UInt8 → Int → Int → List G_Segment → Int → Int → List G_Row → {R : Type} → (List G_Row → Option R) → Option R
  | 0, _, _, _, _, _, _, _, _, _ => none
  | n + 1, v5, v6, v7, v8, v9, v10, v11, _, e0 => (bif (decide (v10 < v9)) then (get_ v8 v10 fun x16 => (bif (x16.f_Class == v5) then (bif (v6 == 0) then (g.kit_Has x16.f_Time v7 (fun r17 => (bif r17 then (bif (decide ((v11.length + [(⟨x16.f_Low, x16.f_High⟩ : G_Row)].length) * 16 ≤ roomBytes')) then band_permitted_L3 g n v5 v6 v7 v8 v9 (w64 (v10 + 1)) (v11 ++ [(⟨x16.f_Low, x16.f_High⟩ : G_Row)]) e0 else none) else band_permitted_L3 g n v5 v6 v7 v8 v9 (w64 (v10 + 1)) v11 e0))) else (g.slices_Contains__int x16.f_Modes v6 (fun r18 => (bif r18 then (g.kit_Has x16.f_Time v7 (fun r19 => (bif r19 then (bif (decide ((v11.length + [(⟨x16.f_Low, x16.f_High⟩ : G_Row)].length) * 16 ≤ roomBytes')) then band_permitted_L3 g n v5 v6 v7 v8 v9 (w64 (v10 + 1)) (v11 ++ [(⟨x16.f_Low, x16.f_High⟩ : G_Row)]) e0 else none) else band_permitted_L3 g n v5 v6 v7 v8 v9 (w64 (v10 + 1)) v11 e0))) else band_permitted_L3 g n v5 v6 v7 v8 v9 (w64 (v10 + 1)) v11 e0)))) else band_permitted_L3 g n v5 v6 v7 v8 v9 (w64 (v10 + 1)) v11 e0)) else e0 v11)
def band_permitted_ (g : C_band_permitted) (a1 : List G_Segment) (a2 : List UInt8) (a3 a4 : Int) {R : Type} (k0 : List G_Row → Option R) : Option R :=
  (band_permitted_L3 g g.N a2 a3 a4 a1 (a1.length : Int) 0 [] (fun e20 => (g.band_joined e20 (fun r21 => k0 r21))))
noncomputable def I_band_permitted [Fuel] : C_band_permitted := ⟨NN, @slices_Contains__int _, @kit_Has _, @band_joined _⟩
noncomputable def band_permitted [Fuel] : T_band_permitted := @band_permitted_ I_band_permitted
def SS_band_permitted (g : T_band_permitted) : Spec A := fun args => match args with | [.d (.sl 172 a1), .d (.str a2), .d (.int .i64 a3), .d (.int .i64 a4)] => fun k => g a1 a2 a3 a4 (fun z0 => k (.arr 98 z0) [.undef, .undef, .undef, .undef]) | _ => fun _ => none
def sh_band_permitted_L3 : SSt := mkSh 49 5 [(1, .str), (2, .int .i64), (3, .int .i64), (9, .own 98 0), (12, .sl 172), (13, .int .i64), (14, .int .i64)] [(0, .row 98)]
def LP_band_permitted_L3 (g : C_band_permitted) (n : Nat) : LPT A := fun ps => match ps with | [.d (.str p1), .d (.int .i64 p2), .d (.int .i64 p3), .d (.sl 172 p4), .d (.int .i64 p5), .d (.int .i64 p6), .d (.sl 98 p7)] => fun K => band_permitted_L3 g n p1 p2 p3 p4 p5 p6 p7 (fun z0 => K (.exit 0) (mkSt 49 5 [(9, .own 98 0)] [(0, some (.row 98 z0))])) | _ => fun _ => none
noncomputable def code_153 : Code := (Tryz.f153.body).getD .skip
noncomputable def E_band_permitted (g : C_band_permitted) : Env A := mkE [(200, SS_slices_Contains__int g.slices_Contains__int), (201, SS_kit_Has g.kit_Has), (202, SS_band_joined g.band_joined)] [(11, [1]), (44, [2]), (45, [3]), (48, [4])] [(3, ⟨[1, 2, 3, 9, 12, 13, 14], [(9, 98, 0)], [], []⟩)] [(3, ⟨[9], [], [0], []⟩)] [(3, pieceOf sh_band_permitted_L3 (LP_band_permitted_L3 g g.N))] [] [] [] [(202, 0)] []
theorem ct_band_permitted [Fuel] : NatTab (E_band_permitted I_band_permitted).C := ct_of (P := Tryz.prog) (T := T) (.cons ok_slices_Contains__int (.cons ok_kit_Has (.cons ok_band_joined .nil))) (by kernel_rfl)
noncomputable def cb_band_permitted_L3 : Code := sub [1, 1, 0, 1, 0, 0] code_153
theorem s_band_permitted_L3 (g : C_band_permitted) (n : Nat) : StepOk (E_band_permitted g) g.N cb_band_permitted_L3 sh_band_permitted_L3 (LP_band_permitted_L3 g) n := by intro ps; unfold LP_band_permitted_L3; split; exact .inr fun R K => (by kernel_rfl); exact .inl fun R K => rfl
theorem lf_band_permitted_L3 [Fuel] : LoopFine (E_band_permitted I_band_permitted) NN cb_band_permitted_L3 := fine_loop sh_band_permitted_L3 (LP_band_permitted_L3 I_band_permitted) (by kernel_rfl) ct_band_permitted (cuts0 (fun _ => rfl) (by kernel_rfl)) (fun ps R K => by unfold LP_band_permitted_L3; split <;> (try unfold band_permitted_L3) <;> rfl) (s_band_permitted_L3 I_band_permitted)
theorem sm_band_permitted (g : C_band_permitted) : Same (SS_band_permitted (@band_permitted_ g)) (abody (E_band_permitted g) Tryz.f153 code_153 5 [] [.arr 98] g.N) := by intro args; unfold SS_band_permitted; split; exact .inr fun R k => (by kernel_rfl); exact .inl fun R k => rfl
theorem ok_band_permitted [Fuel] : Ok 153 (SS_band_permitted (@band_permitted _)) := okF_of std (.cons ok_slices_Contains__int (.cons ok_kit_Has (.cons ok_band_joined .nil))) ⟨rfl, rfl, by kernel_rfl, rfl, rfl⟩ (sm_band_permitted I_band_permitted) (cutsL (fun _ => rfl) (.cons lf_band_permitted_L3 .nil) (by kernel_rfl)) Tryz.func153 (by kernel_rfl) (by kernel_rfl)
abbrev T_band_May_1 : Type 1 := G_Row → G_Row → {R : Type} → (Bool → G_Row → Option R) → Option R
def band_May_1_ (g : Nat) (a1 a2 : G_Row) {R : Type} (k0 : Bool → G_Row → Option R) : Option R :=
  (bif (decide (a1.f_From ≤ a2.f_From)) then k0 (decide (a2.f_To ≤ a1.f_To)) a2 else k0 false a2)
noncomputable def band_May_1 [Fuel] : T_band_May_1 := @band_May_1_ NN
def SS_band_May_1 (g : T_band_May_1) : Spec A := fun args => match args with | [.agg [.d (.int .i64 a1), .d (.int .i64 a2)], .box [.d (.int .i64 a3), .d (.int .i64 a4)]] => fun k => g ⟨a1, a2⟩ ⟨a3, a4⟩ (fun z0 z1 => k (.d (.bool z0)) [.undef, .box [.d (.int .i64 z1.f_From), .d (.int .i64 z1.f_To)]]) | _ => fun _ => none
noncomputable def code_154 : Code := (Tryz.f154.body).getD .skip
noncomputable def E_band_May_1 (g : Nat) : Env A := mkE [] [(2, [1])] [] [] [] [] [] [] [] [1]
theorem sm_band_May_1 (g : Nat) : Same (SS_band_May_1 (@band_May_1_ g)) (abody (E_band_May_1 g) Tryz.f154 code_154 2 [0] [.asis] g) := by intro args; unfold SS_band_May_1; split; exact .inr fun R k => (by kernel_rfl); exact .inl fun R k => rfl
theorem ok_band_May_1 [Fuel] : Ok 154 (SS_band_May_1 (@band_May_1 _)) := okF_of std .nil ⟨rfl, rfl, by kernel_rfl, rfl, rfl⟩ (sm_band_May_1 NN) (cuts0 (fun _ => rfl) (by kernel_rfl)) Tryz.func154 (by kernel_rfl) (by kernel_rfl)
abbrev T_slices_IndexFunc__Row_band_May_1 : Type 1 := List G_Row → G_Row → {R : Type} → (Int → G_Row → Option R) → Option R
structure C_slices_IndexFunc__Row_band_May_1 where
  N : Nat
  band_May_1 : T_band_May_1
def slices_IndexFunc__Row_band_May_1_L2 (g : C_slices_IndexFunc__Row_band_May_1) : Nat → List G_Row → Int → Int → G_Row → {R : Type} → (Int → G_Row → Option R) → (G_Row → Option R) → Option R
  | 0, _, _, _, _, _, _, _ => none
  | n + 1, v3, v4, v5, v6, _, e0, e1 => (bif (decide (v5 < v4)) then (get_ v3 v5 fun x10 => (g.band_May_1 x10 v6 (fun r11 r12 => (bif r11 then e0 v5 r12 else slices_IndexFunc__Row_band_May_1_L2 g n v3 v4 (w64 (v5 + 1)) r12 e0 e1)))) else e1 v6)
def slices_IndexFunc__Row_band_May_1_ (g : C_slices_IndexFunc__Row_band_May_1) (a1 : List G_Row) (a2 : G_Row) {R : Type} (k0 : Int → G_Row → Option R) : Option R :=
  (slices_IndexFunc__Row_band_May_1_L2 g g.N a1 (a1.length : Int) 0 a2 (fun e13 e14 => k0 e13 e14) (fun e15 => k0 (-1) e15))
noncomputable def I_slices_IndexFunc__Row_band_May_1 [Fuel] : C_slices_IndexFunc__Row_band_May_1 := ⟨NN, @band_May_1 _⟩
noncomputable def slices_IndexFunc__Row_band_May_1 [Fuel] : T_slices_IndexFunc__Row_band_May_1 := @slices_IndexFunc__Row_band_May_1_ I_slices_IndexFunc__Row_band_May_1
def SS_slices_IndexFunc__Row_band_May_1 (g : T_slices_IndexFunc__Row_band_May_1) : Spec A := fun args => match args with | [.d (.sl 98 a1), .fn 154 [.box [.d (.int .i64 a2), .d (.int .i64 a3)]]] => fun k => g a1 ⟨a2, a3⟩ (fun z0 z1 => k (.d (.int .i64 z0)) [.undef, .fn 154 [.box [.d (.int .i64 z1.f_From), .d (.int .i64 z1.f_To)]]]) | _ => fun _ => none
def sh_slices_IndexFunc__Row_band_May_1_L2 : SSt := mkSh 19 1 [(0, .sl 98), (1, .fn 154 [.ptr 0 0]), (7, .int .i64), (8, .int .i64)] [(0, .box [.int .i64, .int .i64])]
def LP_slices_IndexFunc__Row_band_May_1_L2 (g : C_slices_IndexFunc__Row_band_May_1) (n : Nat) : LPT A := fun ps => match ps with | [.d (.sl 98 p1), .d (.int .i64 p2), .d (.int .i64 p3), .d (.int .i64 p4), .d (.int .i64 p5)] => fun K => slices_IndexFunc__Row_band_May_1_L2 g n p1 p2 p3 ⟨p4, p5⟩ (fun z0 z1 => K .ret (mkSt 19 1 [(1, .fn 154 [.ptr 0 0]), (4, .d (.int .i64 z0))] [(0, some (.box [.d (.int .i64 z1.f_From), .d (.int .i64 z1.f_To)]))])) (fun z0 => K (.exit 0) (mkSt 19 1 [(1, .fn 154 [.ptr 0 0])] [(0, some (.box [.d (.int .i64 z0.f_From), .d (.int .i64 z0.f_To)]))])) | _ => fun _ => none
noncomputable def code_199 : Code := (Tryz.f199.body).getD .skip
noncomputable def E_slices_IndexFunc__Row_band_May_1 (g : C_slices_IndexFunc__Row_band_May_1) : Env A := mkE [(154, SS_band_May_1 g.band_May_1)] [] [(2, ⟨[0, 1, 7, 8], [], [0], []⟩)] [(2, ⟨[1, 4], [], [0], []⟩)] [(2, pieceOf sh_slices_IndexFunc__Row_band_May_1_L2 (LP_slices_IndexFunc__Row_band_May_1_L2 g g.N))] [] [] [] [] [1]
theorem ct_slices_IndexFunc__Row_band_May_1 [Fuel] : NatTab (E_slices_IndexFunc__Row_band_May_1 I_slices_IndexFunc__Row_band_May_1).C := ct_of (P := Tryz.prog) (T := T) (.cons ok_band_May_1 .nil) (by kernel_rfl)
noncomputable def cb_slices_IndexFunc__Row_band_May_1_L2 : Code := sub [1, 0, 1, 0, 0] code_199
theorem s_slices_IndexFunc__Row_band_May_1_L2 (g : C_slices_IndexFunc__Row_band_May_1) (n : Nat) : StepOk (E_slices_IndexFunc__Row_band_May_1 g) g.N cb_slices_IndexFunc__Row_band_May_1_L2 sh_slices_IndexFunc__Row_band_May_1_L2 (LP_slices_IndexFunc__Row_band_May_1_L2 g) n := by intro ps; unfold LP_slices_IndexFunc__Row_band_May_1_L2; split; exact .inr fun R K => (by kernel_rfl); exact .inl fun R K => rfl
theorem lf_slices_IndexFunc__Row_band_May_1_L2 [Fuel] : LoopFine (E_slices_IndexFunc__Row_band_May_1 I_slices_IndexFunc__Row_band_May_1) NN cb_slices_IndexFunc__Row_band_May_1_L2 := fine_loop sh_slices_IndexFunc__Row_band_May_1_L2 (LP_slices_IndexFunc__Row_band_May_1_L2 I_slices_IndexFunc__Row_band_May_1) (by kernel_rfl) ct_slices_IndexFunc__Row_band_May_1 (cuts0 (fun _ => rfl) (by kernel_rfl)) (fun ps R K => by unfold LP_slices_IndexFunc__Row_band_May_1_L2; split <;> (try unfold slices_IndexFunc__Row_band_May_1_L2) <;> rfl) (s_slices_IndexFunc__Row_band_May_1_L2 I_slices_IndexFunc__Row_band_May_1)
theorem sm_slices_IndexFunc__Row_band_May_1 (g : C_slices_IndexFunc__Row_band_May_1) : Same (SS_slices_IndexFunc__Row_band_May_1 (@slices_IndexFunc__Row_band_May_1_ g)) (abody (E_slices_IndexFunc__Row_band_May_1 g) Tryz.f199 code_199 1 [0] [.asis] g.N) := by intro args; unfold SS_slices_IndexFunc__Row_band_May_1; split; exact .inr fun R k => (by kernel_rfl); exact .inl fun R k => rfl
theorem ok_slices_IndexFunc__Row_band_May_1 [Fuel] : Ok 199 (SS_slices_IndexFunc__Row_band_May_1 (@slices_IndexFunc__Row_band_May_1 _)) := okF_of std (.cons ok_band_May_1 .nil) ⟨rfl, rfl, by kernel_rfl, rfl, rfl⟩ (sm_slices_IndexFunc__Row_band_May_1 I_slices_IndexFunc__Row_band_May_1) (cutsL (fun _ => rfl) (.cons lf_slices_IndexFunc__Row_band_May_1_L2 .nil) (by kernel_rfl)) Tryz.func199 (by kernel_rfl) (by kernel_rfl)
abbrev T_slices_ContainsFunc__Row_band_May_1 : Type 1 := List G_Row → G_Row → {R : Type} → (Bool → G_Row → Option R) → Option R
structure C_slices_ContainsFunc__Row_band_May_1 where
  N : Nat
  slices_IndexFunc__Row_band_May_1 : T_slices_IndexFunc__Row_band_May_1
def slices_ContainsFunc__Row_band_May_1_ (g : C_slices_ContainsFunc__Row_band_May_1) (a1 : List G_Row) (a2 : G_Row) {R : Type} (k0 : Bool → G_Row → Option R) : Option R :=
  (g.slices_IndexFunc__Row_band_May_1 a1 a2 (fun r3 r4 => k0 (decide (r3 ≥ 0)) r4))
noncomputable def I_slices_ContainsFunc__Row_band_May_1 [Fuel] : C_slices_ContainsFunc__Row_band_May_1 := ⟨NN, @slices_IndexFunc__Row_band_May_1 _⟩
noncomputable def slices_ContainsFunc__Row_band_May_1 [Fuel] : T_slices_ContainsFunc__Row_band_May_1 := @slices_ContainsFunc__Row_band_May_1_ I_slices_ContainsFunc__Row_band_May_1
def SS_slices_ContainsFunc__Row_band_May_1 (g : T_slices_ContainsFunc__Row_band_May_1) : Spec A := fun args => match args with | [.d (.sl 98 a1), .fn 154 [.box [.d (.int .i64 a2), .d (.int .i64 a3)]]] => fun k => g a1 ⟨a2, a3⟩ (fun z0 z1 => k (.d (.bool z0)) [.undef, .fn 154 [.box [.d (.int .i64 z1.f_From), .d (.int .i64 z1.f_To)]]]) | _ => fun _ => none
noncomputable def code_152 : Code := (Tryz.f152.body).getD .skip
noncomputable def E_slices_ContainsFunc__Row_band_May_1 (g : C_slices_ContainsFunc__Row_band_May_1) : Env A := mkE [(199, SS_slices_IndexFunc__Row_band_May_1 g.slices_IndexFunc__Row_band_May_1)] [] [] [] [] [] [] [] [(199, 0)] [1]
theorem sm_slices_ContainsFunc__Row_band_May_1 (g : C_slices_ContainsFunc__Row_band_May_1) : Same (SS_slices_ContainsFunc__Row_band_May_1 (@slices_ContainsFunc__Row_band_May_1_ g)) (abody (E_slices_ContainsFunc__Row_band_May_1 g) Tryz.f152 code_152 1 [0] [.asis] g.N) := by intro args; unfold SS_slices_ContainsFunc__Row_band_May_1; split; exact .inr fun R k => (by kernel_rfl); exact .inl fun R k => rfl
theorem ok_slices_ContainsFunc__Row_band_May_1 [Fuel] : Ok 152 (SS_slices_ContainsFunc__Row_band_May_1 (@slices_ContainsFunc__Row_band_May_1 _)) := okF_of std (.cons ok_slices_IndexFunc__Row_band_May_1 .nil) ⟨rfl, rfl, by kernel_rfl, rfl, rfl⟩ (sm_slices_ContainsFunc__Row_band_May_1 I_slices_ContainsFunc__Row_band_May_1) (cuts0 (fun _ => rfl) (by kernel_rfl)) Tryz.func152 (by kernel_rfl) (by kernel_rfl)
abbrev T_band_May : Type 1 := List G_Segment → List UInt8 → Int → Int → Int → Int → {R : Type} → (Bool → Int → Option R) → Option R
structure C_band_May where
  N : Nat
  band_CheckSegments : T_band_CheckSegments
  kit_IsMoment : T_kit_IsMoment
  kit_Outside : T_kit_Outside
  kit_IsMode : T_kit_IsMode
  kit_IsKey : T_kit_IsKey
  band_used : T_band_used
  slices_ContainsFunc__Row_band_May_1 : T_slices_ContainsFunc__Row_band_May_1
  band_permitted : T_band_permitted
def band_May_ (g : C_band_May) (a1 : List G_Segment) (a2 : List UInt8) (a3 a4 a5 a6 : Int) {R : Type} (k0 : Bool → Int → Option R) : Option R :=
  (g.band_CheckSegments a1 (fun r7 => (bif (r7 != 0) then k0 false r7 else (g.kit_IsKey a2 (fun r8 => (bif (!r8) then k0 false 5 else (g.kit_Outside a3 0 30000000000 (fun r9 => (bif r9 then k0 false 1 else (g.kit_Outside a4 1 100000 (fun r10 => (bif r10 then k0 false 1 else (g.kit_IsMode a5 (fun r11 => (bif (!r11) then k0 false 4 else (g.kit_IsMoment a6 (fun r12 => (bif (!r12) then k0 false 1 else (g.band_used a3 a4 (fun r13 => (g.band_permitted a1 a2 a5 a6 (fun r14 => (g.slices_ContainsFunc__Row_band_May_1 r14 r13 (fun r15 r16 => k0 r15 0))))))))))))))))))))))))
noncomputable def I_band_May [Fuel] : C_band_May := ⟨NN, @band_CheckSegments _, @kit_IsMoment _, @kit_Outside _, @kit_IsMode _, @kit_IsKey _, @band_used _, @slices_ContainsFunc__Row_band_May_1 _, @band_permitted _⟩
noncomputable def band_May [Fuel] : T_band_May := @band_May_ I_band_May
def SS_band_May (g : T_band_May) : Spec A := fun args => match args with | [.d (.sl 172 a1), .d (.str a2), .d (.int .i64 a3), .d (.int .i64 a4), .d (.int .i64 a5), .d (.int .i64 a6)] => fun k => g a1 a2 a3 a4 a5 a6 (fun z0 z1 => k (.tup [.d (.bool z0), .d (.int .i64 z1)]) [.undef, .undef, .undef, .undef, .undef, .undef]) | _ => fun _ => none
noncomputable def code_56 : Code := (Tryz.f56.body).getD .skip
noncomputable def E_band_May (g : C_band_May) : Env A := mkE [(66, SS_band_CheckSegments g.band_CheckSegments), (126, SS_kit_IsMoment g.kit_IsMoment), (127, SS_kit_Outside g.kit_Outside), (128, SS_kit_IsMode g.kit_IsMode), (130, SS_kit_IsKey g.kit_IsKey), (151, SS_band_used g.band_used), (152, SS_slices_ContainsFunc__Row_band_May_1 g.slices_ContainsFunc__Row_band_May_1), (153, SS_band_permitted g.band_permitted)] [(15, [0]), (47, [1])] [] [] [] [] [] [] [] []
theorem sm_band_May (g : C_band_May) : Same (SS_band_May (@band_May_ g)) (abody (E_band_May g) Tryz.f56 code_56 2 [] [.asis, .asis] g.N) := by intro args; unfold SS_band_May; split; exact .inr fun R k => (by kernel_rfl); exact .inl fun R k => rfl
theorem ok_band_May [Fuel] : Ok 56 (SS_band_May (@band_May _)) := okF_of std (.cons ok_band_CheckSegments (.cons ok_kit_IsMoment (.cons ok_kit_Outside (.cons ok_kit_IsMode (.cons ok_kit_IsKey (.cons ok_band_used (.cons ok_slices_ContainsFunc__Row_band_May_1 (.cons ok_band_permitted .nil)))))))) ⟨rfl, rfl, by kernel_rfl, rfl, rfl⟩ (sm_band_May I_band_May) (cuts0 (fun _ => rfl) (by kernel_rfl)) Tryz.func56 (by kernel_rfl) (by kernel_rfl)
abbrev T_band_Windows : Type 1 := List G_Segment → List UInt8 → Int → Int → {R : Type} → (List G_Row → Int → Option R) → Option R
structure C_band_Windows where
  N : Nat
  band_CheckSegments : T_band_CheckSegments
  kit_IsMoment : T_kit_IsMoment
  kit_IsMode : T_kit_IsMode
  kit_IsKey : T_kit_IsKey
  band_permitted : T_band_permitted
def band_Windows_ (g : C_band_Windows) (a1 : List G_Segment) (a2 : List UInt8) (a3 a4 : Int) {R : Type} (k0 : List G_Row → Int → Option R) : Option R :=
  (g.band_CheckSegments a1 (fun r5 => (bif (r5 != 0) then k0 [] r5 else (g.kit_IsKey a2 (fun r6 => (bif (!r6) then k0 [] 5 else (g.kit_IsMode a3 (fun r7 => (bif (!r7) then k0 [] 4 else (g.kit_IsMoment a4 (fun r8 => (bif (!r8) then k0 [] 1 else (g.band_permitted a1 a2 a3 a4 (fun r9 => k0 r9 0))))))))))))))
noncomputable def I_band_Windows [Fuel] : C_band_Windows := ⟨NN, @band_CheckSegments _, @kit_IsMoment _, @kit_IsMode _, @kit_IsKey _, @band_permitted _⟩
noncomputable def band_Windows [Fuel] : T_band_Windows := @band_Windows_ I_band_Windows
def SS_band_Windows (g : T_band_Windows) : Spec A := fun args => match args with | [.d (.sl 172 a1), .d (.str a2), .d (.int .i64 a3), .d (.int .i64 a4)] => fun k => g a1 a2 a3 a4 (fun z0 z1 => k (.tup [.arr 98 z0, .d (.int .i64 z1)]) [.undef, .undef, .undef, .undef]) | _ => fun _ => none
noncomputable def code_57 : Code := (Tryz.f57.body).getD .skip
noncomputable def E_band_Windows (g : C_band_Windows) : Env A := mkE [(66, SS_band_CheckSegments g.band_CheckSegments), (126, SS_kit_IsMoment g.kit_IsMoment), (128, SS_kit_IsMode g.kit_IsMode), (130, SS_kit_IsKey g.kit_IsKey), (153, SS_band_permitted g.band_permitted)] [(32, [0])] [] [] [] [] [] [] [] []
theorem sm_band_Windows (g : C_band_Windows) : Same (SS_band_Windows (@band_Windows_ g)) (abody (E_band_Windows g) Tryz.f57 code_57 1 [] [.arr 98, .asis] g.N) := by intro args; unfold SS_band_Windows; split; exact .inr fun R k => (by kernel_rfl); exact .inl fun R k => rfl
theorem ok_band_Windows [Fuel] : Ok 57 (SS_band_Windows (@band_Windows _)) := okF_of std (.cons ok_band_CheckSegments (.cons ok_kit_IsMoment (.cons ok_kit_IsMode (.cons ok_kit_IsKey (.cons ok_band_permitted .nil))))) ⟨rfl, rfl, by kernel_rfl, rfl, rfl⟩ (sm_band_Windows I_band_Windows) (cuts0 (fun _ => rfl) (by kernel_rfl)) Tryz.func57 (by kernel_rfl) (by kernel_rfl)
abbrev T_band_without : Type 1 := List G_Row → List G_Row → {R : Type} → (List G_Row → Option R) → Option R
def band_without_L7 (g : Nat) : Nat → List G_Row → Int → List G_Row → Int → Int → List G_Row → Int → Int → G_Row → List G_Row → {R : Type} → (List G_Row → Int → List G_Row → Int → Int → G_Row → List G_Row → Option R) → Option R
  | 0, _, _, _, _, _, _, _, _, _, _, _, _ => none
  | n + 1, v29, v30, v31, v32, v33, v34, v35, v36, v37, v38, _, e0 => (bif (decide (v36 < v35)) then (get_ v34 v36 fun x40 => (bif (decide (x40.f_To ≤ v30)) then band_without_L7 g n v29 v30 v31 v32 v33 v34 v35 (w64 (v36 + 1)) v37 v38 e0 else (bif (decide (x40.f_From ≥ v37.f_To)) then band_without_L7 g n v29 v30 v31 v32 v33 v34 v35 (w64 (v36 + 1)) v37 v38 e0 else (bif (decide (x40.f_From > v30)) then (bif (decide ((v38.length + [(⟨v30, x40.f_From⟩ : G_Row)].length) * 16 ≤ roomBytes')) then band_without_L7 g n v29 x40.f_To v31 v32 v33 v34 v35 (w64 (v36 + 1)) v37 (v38 ++ [(⟨v30, x40.f_From⟩ : G_Row)]) e0 else none) else band_without_L7 g n v29 x40.f_To v31 v32 v33 v34 v35 (w64 (v36 + 1)) v37 v38 e0)))) else e0 v29 v30 v31 v32 v33 v37 v38)
def band_without_L3 (g : Nat) : Nat → List G_Row → List G_Row → Int → Int → List G_Row → {R : Type} → (List G_Row → Option R) → Option R
  | 0, _, _, _, _, _, _, _ => none
  | n + 1, v3, v4, v5, v6, v7, _, e0 => (bif (decide (v6 < v5)) then (get_ v4 v6 fun x28 => (band_without_L7 g g v3 x28.f_From v4 v5 v6 v3 (v3.length : Int) 0 x28 v7 (fun e41 e42 e43 e44 e45 e46 e47 => (bif (decide (e42 < e46.f_To)) then (bif (decide ((e47.length + [(⟨e42, e46.f_To⟩ : G_Row)].length) * 16 ≤ roomBytes')) then band_without_L3 g n e41 e43 e44 (w64 (e45 + 1)) (e47 ++ [(⟨e42, e46.f_To⟩ : G_Row)]) e0 else none) else band_without_L3 g n e41 e43 e44 (w64 (e45 + 1)) e47 e0)))) else e0 v7)
def band_without_ (g : Nat) (a1 a2 : List G_Row) {R : Type} (k0 : List G_Row → Option R) : Option R :=
  (band_without_L3 g g a2 a1 (a1.length : Int) 0 [] (fun e48 => k0 e48))
noncomputable def band_without [Fuel] : T_band_without := @band_without_ NN
def SS_band_without (g : T_band_without) : Spec A := fun args => match args with | [.d (.sl 98 a1), .d (.sl 98 a2)] => fun k => g a1 a2 (fun z0 => k (.arr 98 z0) [.undef, .undef]) | _ => fun _ => none
def sh_band_without_L7 : SSt := mkSh 63 8 [(1, .sl 98), (5, .own 98 2), (7, .ptr 1 0), (8, .int .i64), (11, .sl 98), (12, .int .i64), (13, .int .i64), (19, .sl 98), (20, .int .i64), (21, .int .i64)] [(1, .box [.int .i64, .int .i64]), (2, .row 98)]
def LP_band_without_L7 (g : Nat) (n : Nat) : LPT A := fun ps => match ps with | [.d (.sl 98 p1), .d (.int .i64 p2), .d (.sl 98 p3), .d (.int .i64 p4), .d (.int .i64 p5), .d (.sl 98 p6), .d (.int .i64 p7), .d (.int .i64 p8), .d (.int .i64 p9), .d (.int .i64 p10), .d (.sl 98 p11)] => fun K => band_without_L7 g n p1 p2 p3 p4 p5 p6 p7 p8 ⟨p9, p10⟩ p11 (fun z0 z1 z2 z3 z4 z5 z6 => K (.exit 2) (mkSt 63 8 [(1, .d (.sl 98 z0)), (5, .own 98 2), (7, .ptr 1 0), (8, .d (.int .i64 z1)), (11, .d (.sl 98 z2)), (12, .d (.int .i64 z3)), (13, .d (.int .i64 z4))] [(1, some (.box [.d (.int .i64 z5.f_From), .d (.int .i64 z5.f_To)])), (2, some (.row 98 z6))])) | _ => fun _ => none
def sh_band_without_L3 : SSt := mkSh 63 8 [(1, .sl 98), (5, .own 98 0), (11, .sl 98), (12, .int .i64), (13, .int .i64)] [(0, .row 98)]
def LP_band_without_L3 (g : Nat) (n : Nat) : LPT A := fun ps => match ps with | [.d (.sl 98 p1), .d (.sl 98 p2), .d (.int .i64 p3), .d (.int .i64 p4), .d (.sl 98 p5)] => fun K => band_without_L3 g n p1 p2 p3 p4 p5 (fun z0 => K (.exit 0) (mkSt 63 8 [(5, .own 98 0)] [(0, some (.row 98 z0))])) | _ => fun _ => none
noncomputable def code_155 : Code := (Tryz.f155.body).getD .skip
noncomputable def E_band_without (g : Nat) : Env A := mkE [] [(7, [1]), (10, [3]), (45, [4]), (46, [5]), (59, [6]), (60, [7])] [(7, ⟨[1, 5, 7, 8, 11, 12, 13, 19, 20, 21], [(5, 98, 2)], [1], []⟩), (3, ⟨[1, 5, 11, 12, 13], [(5, 98, 0)], [], []⟩)] [(7, ⟨[1, 5, 7, 8, 11, 12, 13], [], [1, 2], []⟩), (3, ⟨[5], [], [0], []⟩)] [(7, pieceOf sh_band_without_L7 (LP_band_without_L7 g g)), (3, pieceOf sh_band_without_L3 (LP_band_without_L3 g g))] [] [] [] [] []
theorem ct_band_without [Fuel] : NatTab (E_band_without NN).C := ct_of (P := Tryz.prog) (T := T) .nil (by kernel_rfl)
noncomputable def cb_band_without_L7 : Code := sub [1, 1, 0, 1, 0, 0, 1, 1, 0, 0, 1, 1, 0, 1, 0, 0] code_155
theorem s_band_without_L7 (g : Nat) (n : Nat) : StepOk (E_band_without g) g cb_band_without_L7 sh_band_without_L7 (LP_band_without_L7 g) n := by intro ps; unfold LP_band_without_L7; split; exact .inr fun R K => (by kernel_rfl); exact .inl fun R K => rfl
theorem lf_band_without_L7 [Fuel] : LoopFine (E_band_without NN) NN cb_band_without_L7 := fine_loop sh_band_without_L7 (LP_band_without_L7 NN) (by kernel_rfl) ct_band_without (cuts0 (fun _ => rfl) (by kernel_rfl)) (fun ps R K => by unfold LP_band_without_L7; split <;> (try unfold band_without_L7) <;> rfl) (s_band_without_L7 NN)
noncomputable def cb_band_without_L3 : Code := sub [1, 1, 0, 1, 0, 0] code_155
theorem s_band_without_L3 (g : Nat) (n : Nat) : StepOk (E_band_without g) g cb_band_without_L3 sh_band_without_L3 (LP_band_without_L3 g) n := by intro ps; unfold LP_band_without_L3; split; exact .inr fun R K => (by kernel_rfl); exact .inl fun R K => rfl
theorem lf_band_without_L3 [Fuel] : LoopFine (E_band_without NN) NN cb_band_without_L3 := fine_loop sh_band_without_L3 (LP_band_without_L3 NN) (by kernel_rfl) ct_band_without (cutsL (fun _ => rfl) (.cons lf_band_without_L7 .nil) (by kernel_rfl)) (fun ps R K => by unfold LP_band_without_L3; split <;> (try unfold band_without_L3) <;> rfl) (s_band_without_L3 NN)
theorem sm_band_without (g : Nat) : Same (SS_band_without (@band_without_ g)) (abody (E_band_without g) Tryz.f155 code_155 8 [] [.arr 98] g) := by intro args; unfold SS_band_without; split; exact .inr fun R k => (by kernel_rfl); exact .inl fun R k => rfl
theorem ok_band_without [Fuel] : Ok 155 (SS_band_without (@band_without _)) := okF_of std .nil ⟨rfl, rfl, by kernel_rfl, rfl, rfl⟩ (sm_band_without NN) (cutsL (fun _ => rfl) (.cons lf_band_without_L7 (.cons lf_band_without_L3 .nil)) (by kernel_rfl)) Tryz.func155 (by kernel_rfl) (by kernel_rfl)
abbrev T_band_Lost : Type 1 := List G_Segment → List UInt8 → Int → Int → {R : Type} → (List G_Row → Int → Option R) → Option R
structure C_band_Lost where
  N : Nat
  band_CheckSegments : T_band_CheckSegments
  kit_IsMoment : T_kit_IsMoment
  kit_IsKey : T_kit_IsKey
  band_permitted : T_band_permitted
  band_without : T_band_without
def band_Lost_ (g : C_band_Lost) (a1 : List G_Segment) (a2 : List UInt8) (a3 a4 : Int) {R : Type} (k0 : List G_Row → Int → Option R) : Option R :=
  (g.band_CheckSegments a1 (fun r5 => (bif (r5 != 0) then k0 [] r5 else (g.kit_IsKey a2 (fun r6 => (bif (!r6) then k0 [] 5 else (g.kit_IsMoment a3 (fun r7 => (bif (!r7) then k0 [] 1 else (g.kit_IsMoment a4 (fun r8 => (bif (!r8) then k0 [] 1 else (g.band_permitted a1 a2 0 a3 (fun r9 => (g.band_permitted a1 a2 0 a4 (fun r10 => (g.band_without r9 r10 (fun r11 => k0 r11 0))))))))))))))))))
noncomputable def I_band_Lost [Fuel] : C_band_Lost := ⟨NN, @band_CheckSegments _, @kit_IsMoment _, @kit_IsKey _, @band_permitted _, @band_without _⟩
noncomputable def band_Lost [Fuel] : T_band_Lost := @band_Lost_ I_band_Lost
def SS_band_Lost (g : T_band_Lost) : Spec A := fun args => match args with | [.d (.sl 172 a1), .d (.str a2), .d (.int .i64 a3), .d (.int .i64 a4)] => fun k => g a1 a2 a3 a4 (fun z0 z1 => k (.tup [.arr 98 z0, .d (.int .i64 z1)]) [.undef, .undef, .undef, .undef]) | _ => fun _ => none
noncomputable def code_58 : Code := (Tryz.f58.body).getD .skip
noncomputable def E_band_Lost (g : C_band_Lost) : Env A := mkE [(66, SS_band_CheckSegments g.band_CheckSegments), (126, SS_kit_IsMoment g.kit_IsMoment), (130, SS_kit_IsKey g.kit_IsKey), (153, SS_band_permitted g.band_permitted), (155, SS_band_without g.band_without)] [(30, [0]), (34, [1]), (35, [2])] [] [] [] [] [] [] [] []
theorem sm_band_Lost (g : C_band_Lost) : Same (SS_band_Lost (@band_Lost_ g)) (abody (E_band_Lost g) Tryz.f58 code_58 3 [] [.arr 98, .asis] g.N) := by intro args; unfold SS_band_Lost; split; exact .inr fun R k => (by kernel_rfl); exact .inl fun R k => rfl
theorem ok_band_Lost [Fuel] : Ok 58 (SS_band_Lost (@band_Lost _)) := okF_of std (.cons ok_band_CheckSegments (.cons ok_kit_IsMoment (.cons ok_kit_IsKey (.cons ok_band_permitted (.cons ok_band_without .nil))))) ⟨rfl, rfl, by kernel_rfl, rfl, rfl⟩ (sm_band_Lost I_band_Lost) (cuts0 (fun _ => rfl) (by kernel_rfl)) Tryz.func58 (by kernel_rfl) (by kernel_rfl)
abbrev T_Q_in : Type 1 := Int → Int → Int → {R : Type} → (Bool → Option R) → Option R
def Q_in_ (g : Nat) (a1 a2 a3 : Int) {R : Type} (k0 : Bool → Option R) : Option R :=
  (bif (decide (a2 ≤ a1)) then k0 (decide (a1 ≤ a3)) else k0 false)
noncomputable def Q_in [Fuel] : T_Q_in := @Q_in_ NN
def SS_Q_in (g : T_Q_in) : Spec A := fun args => match args with | [.d (.int .i64 a1), .d (.int .i64 a2), .d (.int .i64 a3)] => fun k => g a1 a2 a3 (fun z0 => k (.d (.bool z0)) [.undef, .undef, .undef]) | _ => fun _ => none
noncomputable def code_86 : Code := (Tryz.f86.body).getD .skip
noncomputable def E_Q_in (g : Nat) : Env A := mkE [] [] [] [] [] [] [] [] [] []
theorem sm_Q_in (g : Nat) : Same (SS_Q_in (@Q_in_ g)) (abody (E_Q_in g) Tryz.f86 code_86 0 [] [.asis] g) := by intro args; unfold SS_Q_in; split; exact .inr fun R k => (by kernel_rfl); exact .inl fun R k => rfl
theorem ok_Q_in [Fuel] : Ok 86 (SS_Q_in (@Q_in _)) := okF_of std .nil ⟨rfl, rfl, by kernel_rfl, rfl, rfl⟩ (sm_Q_in NN) (cuts0 (fun _ => rfl) (by kernel_rfl)) Tryz.func86 (by kernel_rfl) (by kernel_rfl)
abbrev T_Q_only : Type 1 := List UInt8 → List UInt8 → {R : Type} → (Bool → Option R) → Option R
structure C_Q_only where
  N : Nat
  strings_IndexByte : T_strings_IndexByte
def Q_only_L2 (g : C_Q_only) : Nat → List UInt8 → List UInt8 → Int → Int → {R : Type} → (Bool → Option R) → Option R → Option R
  | 0, _, _, _, _, _, _, _ => none
  | n + 1, v3, v4, v5, v6, _, e0, e1 => (bif (decide (v6 < v5)) then (get_ v3 v6 fun x9 => (g.strings_IndexByte v4 (x9.toNat : Int) (fun r10 => (bif (decide (r10 < 0)) then e0 false else Q_only_L2 g n v3 v4 v5 (w64 (v6 + 1)) e0 e1)))) else e1)
def Q_only_ (g : C_Q_only) (a1 a2 : List UInt8) {R : Type} (k0 : Bool → Option R) : Option R :=
  (Q_only_L2 g g.N a1 a2 (a1.length : Int) 0 (fun e11 => k0 e11) (k0 true))
noncomputable def I_Q_only [Fuel] : C_Q_only := ⟨NN, @strings_IndexByte _⟩
noncomputable def Q_only [Fuel] : T_Q_only := @Q_only_ I_Q_only
def SS_Q_only (g : T_Q_only) : Spec A := fun args => match args with | [.d (.str a1), .d (.str a2)] => fun k => g a1 a2 (fun z0 => k (.d (.bool z0)) [.undef, .undef]) | _ => fun _ => none
def sh_Q_only_L2 : SSt := mkSh 18 0 [(0, .str), (1, .str), (7, .int .i64), (8, .int .i64)] []
def LP_Q_only_L2 (g : C_Q_only) (n : Nat) : LPT A := fun ps => match ps with | [.d (.str p1), .d (.str p2), .d (.int .i64 p3), .d (.int .i64 p4)] => fun K => Q_only_L2 g n p1 p2 p3 p4 (fun z0 => K .ret (mkSt 18 0 [(4, .d (.bool z0))] [])) (K (.exit 0) (mkSt 18 0 [] [])) | _ => fun _ => none
noncomputable def code_181 : Code := (Tryz.f181.body).getD .skip
noncomputable def E_Q_only (g : C_Q_only) : Env A := mkE [(185, SS_strings_IndexByte g.strings_IndexByte)] [] [(2, ⟨[0, 1, 7, 8], [], [], []⟩)] [(2, ⟨[4], [], [], []⟩)] [(2, pieceOf sh_Q_only_L2 (LP_Q_only_L2 g g.N))] [] [] [] [] []
theorem ct_Q_only [Fuel] : NatTab (E_Q_only I_Q_only).C := ct_of (P := Tryz.prog) (T := T) (.cons ok_strings_IndexByte .nil) (by kernel_rfl)
noncomputable def cb_Q_only_L2 : Code := sub [1, 0, 1, 0, 0] code_181
theorem s_Q_only_L2 (g : C_Q_only) (n : Nat) : StepOk (E_Q_only g) g.N cb_Q_only_L2 sh_Q_only_L2 (LP_Q_only_L2 g) n := by intro ps; unfold LP_Q_only_L2; split; exact .inr fun R K => (by kernel_rfl); exact .inl fun R K => rfl
theorem lf_Q_only_L2 [Fuel] : LoopFine (E_Q_only I_Q_only) NN cb_Q_only_L2 := fine_loop sh_Q_only_L2 (LP_Q_only_L2 I_Q_only) (by kernel_rfl) ct_Q_only (cuts0 (fun _ => rfl) (by kernel_rfl)) (fun ps R K => by unfold LP_Q_only_L2; split <;> (try unfold Q_only_L2) <;> rfl) (s_Q_only_L2 I_Q_only)
theorem sm_Q_only (g : C_Q_only) : Same (SS_Q_only (@Q_only_ g)) (abody (E_Q_only g) Tryz.f181 code_181 0 [] [.asis] g.N) := by intro args; unfold SS_Q_only; split; exact .inr fun R k => (by kernel_rfl); exact .inl fun R k => rfl
theorem ok_Q_only [Fuel] : Ok 181 (SS_Q_only (@Q_only _)) := okF_of std (.cons ok_strings_IndexByte .nil) ⟨rfl, rfl, by kernel_rfl, rfl, rfl⟩ (sm_Q_only I_Q_only) (cutsL (fun _ => rfl) (.cons lf_Q_only_L2 .nil) (by kernel_rfl)) Tryz.func181 (by kernel_rfl) (by kernel_rfl)
end Go.Am
