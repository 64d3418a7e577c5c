/- The functions of the program as Lean functions, each shown to be what the code computes, part 5. No condition: lemmas for the claim. -/
import Derived.Test.YtomkgnajoccdbaaGreatDoorF0
import Derived.Test.YtomkgnajoccdbaaGreatDoorFSh
import Derived.Test.YtomkgnajoccdbaaGreatDoorF4
set_option linter.unusedVariables false
set_option maxRecDepth 100000
namespace Go.Am
open Go Go.Proofs
abbrev T_kit_IsMoment : Type 1 := Int → {R : Type} → (Bool → Option R) → Option R
structure C_kit_IsMoment where
  N : Nat
  kit_Outside : T_kit_Outside
def kit_IsMoment_ (g : C_kit_IsMoment) (a1 : Int) {R : Type} (k0 : Bool → Option R) : Option R :=
  (g.kit_Outside a1 0 345686399999 (fun r2 => k0 (!r2)))
noncomputable def I_kit_IsMoment [Fuel] : C_kit_IsMoment := ⟨NN, @kit_Outside _⟩
noncomputable def kit_IsMoment [Fuel] : T_kit_IsMoment := @kit_IsMoment_ I_kit_IsMoment
def SS_kit_IsMoment (g : T_kit_IsMoment) : Spec A := fun args => match args with | [.d (.int .i64 a1)] => fun k => g a1 (fun z0 => k (.d (.bool z0)) [.undef]) | _ => fun _ => none
noncomputable def code_128 : Code := (Tryz.f128.body).getD .skip
noncomputable def E_kit_IsMoment (g : C_kit_IsMoment) : Env A := mkE [(57, SS_kit_Outside g.kit_Outside)] [] [] [] [] [] [] [] [] []
theorem sm_kit_IsMoment (g : C_kit_IsMoment) : Same (SS_kit_IsMoment (@kit_IsMoment_ g)) (abody (E_kit_IsMoment g) Tryz.f128 code_128 0 [] [.asis] g.N) := by intro args; unfold SS_kit_IsMoment; split; exact .inr fun R k => (by kernel_rfl); exact .inl fun R k => rfl
theorem ok_kit_IsMoment [Fuel] : Ok 128 (SS_kit_IsMoment (@kit_IsMoment _)) := okF_of std (.cons ok_kit_Outside .nil) ⟨rfl, rfl, by kernel_rfl, rfl, rfl, rfl⟩ (sm_kit_IsMoment I_kit_IsMoment) (cuts0 (fun _ => rfl) (by kernel_rfl)) Tryz.func128 (by kernel_rfl) (by kernel_rfl)
abbrev T_band_freeFault : Type 1 := List G_Segment → List G_Busy → List UInt8 → Int → Int → Int → {R : Type} → (Int → Option R) → Option R
structure C_band_freeFault where
  N : Nat
  band_CheckBusy : T_band_CheckBusy
  kit_IsKey : T_kit_IsKey
  kit_Outside : T_kit_Outside
  band_CheckSegments : T_band_CheckSegments
  kit_IsMode : T_kit_IsMode
  kit_IsMoment : T_kit_IsMoment
def band_freeFault_ (g : C_band_freeFault) (a1 : List G_Segment) (a2 : List G_Busy) (a3 : List UInt8) (a4 a5 a6 : Int) {R : Type} (k0 : Int → Option R) : Option R :=
  (g.band_CheckSegments a1 (fun r7 => (bif (r7 != 0) then k0 r7 else (g.band_CheckBusy a2 (fun r8 => (bif (r8 != 0) then k0 r8 else (g.kit_IsKey a3 (fun r9 => (bif (!r9) then k0 5 else (g.kit_IsMode a4 (fun r10 => (bif (!r10) then k0 4 else (g.kit_Outside a5 1 100000 (fun r11 => (bif r11 then k0 1 else (g.kit_IsMoment a6 (fun r12 => (bif (!r12) then k0 1 else k0 0))))))))))))))))))
noncomputable def I_band_freeFault [Fuel] : C_band_freeFault := ⟨NN, @band_CheckBusy _, @kit_IsKey _, @kit_Outside _, @band_CheckSegments _, @kit_IsMode _, @kit_IsMoment _⟩
noncomputable def band_freeFault [Fuel] : T_band_freeFault := @band_freeFault_ I_band_freeFault
def SS_band_freeFault (g : T_band_freeFault) : Spec A := fun args => match args with | [.d (.sl 115 a1), .d (.sl 120 a2), .d (.str a3), .d (.int .i64 a4), .d (.int .i64 a5), .d (.int .i64 a6)] => fun k => g a1 a2 a3 a4 a5 a6 (fun z0 => k (.d (.int .i64 z0)) [.undef, .undef, .undef, .undef, .undef, .undef]) | _ => fun _ => none
noncomputable def code_87 : Code := (Tryz.f87.body).getD .skip
noncomputable def E_band_freeFault (g : C_band_freeFault) : Env A := mkE [(43, SS_band_CheckBusy g.band_CheckBusy), (53, SS_kit_IsKey g.kit_IsKey), (57, SS_kit_Outside g.kit_Outside), (126, SS_band_CheckSegments g.band_CheckSegments), (127, SS_kit_IsMode g.kit_IsMode), (128, SS_kit_IsMoment g.kit_IsMoment)] [] [] [] [] [] [] [] [] []
theorem sm_band_freeFault (g : C_band_freeFault) : Same (SS_band_freeFault (@band_freeFault_ g)) (abody (E_band_freeFault g) Tryz.f87 code_87 0 [] [.asis] g.N) := by intro args; unfold SS_band_freeFault; split; exact .inr fun R k => (by kernel_rfl); exact .inl fun R k => rfl
theorem ok_band_freeFault [Fuel] : Ok 87 (SS_band_freeFault (@band_freeFault _)) := okF_of std (.cons ok_band_CheckBusy (.cons ok_kit_IsKey (.cons ok_kit_Outside (.cons ok_band_CheckSegments (.cons ok_kit_IsMode (.cons ok_kit_IsMoment .nil)))))) ⟨rfl, rfl, by kernel_rfl, rfl, rfl, rfl⟩ (sm_band_freeFault I_band_freeFault) (cuts0 (fun _ => rfl) (by kernel_rfl)) Tryz.func87 (by kernel_rfl) (by kernel_rfl)
abbrev T_kit_Has : Type 1 := G_Window → Int → {R : Type} → (Bool → Option R) → Option R
def kit_Has_ (g : Nat) (a1 : G_Window) (a2 : Int) {R : Type} (k0 : Bool → Option R) : Option R :=
  (bif (decide (a1.f_From ≤ a2)) then k0 (decide (a2 < a1.f_To)) else k0 false)
noncomputable def kit_Has [Fuel] : T_kit_Has := @kit_Has_ NN
def SS_kit_Has (g : T_kit_Has) : Spec A := fun args => match args with | [.agg [.d (.int .i64 a1), .d (.int .i64 a2)], .d (.int .i64 a3)] => fun k => g ⟨a1, a2⟩ a3 (fun z0 => k (.d (.bool z0)) [.undef, .undef]) | _ => fun _ => none
noncomputable def code_90 : Code := (Tryz.f90.body).getD .skip
noncomputable def E_kit_Has (g : Nat) : Env A := mkE [] [(2, [0])] [] [] [] [] [] [] [] []
theorem sm_kit_Has (g : Nat) : Same (SS_kit_Has (@kit_Has_ g)) (abody (E_kit_Has g) Tryz.f90 code_90 1 [] [.asis] g) := by intro args; unfold SS_kit_Has; split; exact .inr fun R k => (by kernel_rfl); exact .inl fun R k => rfl
theorem ok_kit_Has [Fuel] : Ok 90 (SS_kit_Has (@kit_Has _)) := okF_of std .nil ⟨rfl, rfl, by kernel_rfl, rfl, rfl, rfl⟩ (sm_kit_Has NN) (cuts0 (fun _ => rfl) (by kernel_rfl)) Tryz.func90 (by kernel_rfl) (by kernel_rfl)
abbrev T_slices_Index__int : Type 1 := List Int → Int → {R : Type} → (Int → Option R) → Option R
def slices_Index__int_L2 (g : Nat) : Nat → List Int → Int → Int → Int → {R : Type} → (Int → Option R) → Option R → Option R
  | 0, _, _, _, _, _, _, _ => none
  | n + 1, v3, v4, v5, v6, _, e0, e1 => (bif (decide (v6 < v5)) then (get_ v3 v6 fun x8 => (bif (v4 == x8) then e0 v6 else slices_Index__int_L2 g n v3 v4 v5 (w64 (v6 + 1)) e0 e1)) else e1)
def slices_Index__int_ (g : Nat) (a1 : List Int) (a2 : Int) {R : Type} (k0 : Int → Option R) : Option R :=
  (slices_Index__int_L2 g g a1 a2 (a1.length : Int) 0 (fun e9 => k0 e9) (k0 (-1)))
noncomputable def slices_Index__int [Fuel] : T_slices_Index__int := @slices_Index__int_ NN
def SS_slices_Index__int (g : T_slices_Index__int) : Spec A := fun args => match args with | [.d (.sl 3 a1), .d (.int .i64 a2)] => fun k => g a1 a2 (fun z0 => k (.d (.int .i64 z0)) [.undef, .undef]) | _ => fun _ => none
def sh_slices_Index__int_L2 : SSt := mkSh 19 0 [(0, .sl 3), (1, .int .i64), (7, .int .i64), (8, .int .i64)] []
def LP_slices_Index__int_L2 (g : Nat) (n : Nat) : LPT A := fun ps => match ps with | [.d (.sl 3 p1), .d (.int .i64 p2), .d (.int .i64 p3), .d (.int .i64 p4)] => fun K => slices_Index__int_L2 g n p1 p2 p3 p4 (fun z0 => K .ret (mkSt 19 0 [(4, .d (.int .i64 z0))] [])) (K (.exit 0) (mkSt 19 0 [] [])) | _ => fun _ => none
noncomputable def code_186 : Code := (Tryz.f186.body).getD .skip
noncomputable def E_slices_Index__int (g : Nat) : Env A := mkE [] [] [(2, ⟨[0, 1, 7, 8], [], [], []⟩)] [(2, ⟨[4], [], [], []⟩)] [(2, pieceOf sh_slices_Index__int_L2 (LP_slices_Index__int_L2 g g))] [] [] [] [] []
theorem ct_slices_Index__int [Fuel] : NatTab (E_slices_Index__int NN).C := ct_of (P := Tryz.prog) (T := T) .nil (by kernel_rfl)
noncomputable def cb_slices_Index__int_L2 : Code := sub [1, 0, 1, 0, 0] code_186
theorem s_slices_Index__int_L2 (g : Nat) (n : Nat) : StepOk (E_slices_Index__int g) g cb_slices_Index__int_L2 sh_slices_Index__int_L2 (LP_slices_Index__int_L2 g) n := by intro ps; unfold LP_slices_Index__int_L2; split; exact .inr fun R K => (by kernel_rfl); exact .inl fun R K => rfl
theorem lf_slices_Index__int_L2 [Fuel] : LoopFine (E_slices_Index__int NN) NN cb_slices_Index__int_L2 := fine_loop sh_slices_Index__int_L2 (LP_slices_Index__int_L2 NN) (by kernel_rfl) ct_slices_Index__int (cuts0 (fun _ => rfl) (by kernel_rfl)) (fun ps R K => by unfold LP_slices_Index__int_L2; split <;> (try unfold slices_Index__int_L2) <;> rfl) (s_slices_Index__int_L2 NN)
theorem sm_slices_Index__int (g : Nat) : Same (SS_slices_Index__int (@slices_Index__int_ g)) (abody (E_slices_Index__int g) Tryz.f186 code_186 0 [] [.asis] g) := by intro args; unfold SS_slices_Index__int; split; exact .inr fun R k => (by kernel_rfl); exact .inl fun R k => rfl
theorem ok_slices_Index__int [Fuel] : Ok 186 (SS_slices_Index__int (@slices_Index__int _)) := okF_of std .nil ⟨rfl, rfl, by kernel_rfl, rfl, rfl, rfl⟩ (sm_slices_Index__int NN) (cutsL (fun _ => rfl) (.cons lf_slices_Index__int_L2 .nil) (by kernel_rfl)) Tryz.func186 (by kernel_rfl) (by kernel_rfl)
abbrev T_slices_Contains__int : Type 1 := List Int → Int → {R : Type} → (Bool → Option R) → Option R
structure C_slices_Contains__int where
  N : Nat
  slices_Index__int : T_slices_Index__int
def slices_Contains__int_ (g : C_slices_Contains__int) (a1 : List Int) (a2 : Int) {R : Type} (k0 : Bool → Option R) : Option R :=
  (g.slices_Index__int a1 a2 (fun r3 => k0 (decide (r3 ≥ 0))))
noncomputable def I_slices_Contains__int [Fuel] : C_slices_Contains__int := ⟨NN, @slices_Index__int _⟩
noncomputable def slices_Contains__int [Fuel] : T_slices_Contains__int := @slices_Contains__int_ I_slices_Contains__int
def SS_slices_Contains__int (g : T_slices_Contains__int) : Spec A := fun args => match args with | [.d (.sl 3 a1), .d (.int .i64 a2)] => fun k => g a1 a2 (fun z0 => k (.d (.bool z0)) [.undef, .undef]) | _ => fun _ => none
noncomputable def code_137 : Code := (Tryz.f137.body).getD .skip
noncomputable def E_slices_Contains__int (g : C_slices_Contains__int) : Env A := mkE [(186, SS_slices_Index__int g.slices_Index__int)] [] [] [] [] [] [] [] [] []
theorem sm_slices_Contains__int (g : C_slices_Contains__int) : Same (SS_slices_Contains__int (@slices_Contains__int_ g)) (abody (E_slices_Contains__int g) Tryz.f137 code_137 0 [] [.asis] g.N) := by intro args; unfold SS_slices_Contains__int; split; exact .inr fun R k => (by kernel_rfl); exact .inl fun R k => rfl
theorem ok_slices_Contains__int [Fuel] : Ok 137 (SS_slices_Contains__int (@slices_Contains__int _)) := okF_of std (.cons ok_slices_Index__int .nil) ⟨rfl, rfl, by kernel_rfl, rfl, rfl, rfl⟩ (sm_slices_Contains__int I_slices_Contains__int) (cuts0 (fun _ => rfl) (by kernel_rfl)) Tryz.func137 (by kernel_rfl) (by kernel_rfl)
abbrev T_band_joined_1 : Type 1 := G_Row → G_Row → {R : Type} → (Int → Option R) → Option R
def band_joined_1_ (g : Nat) (a1 a2 : G_Row) {R : Type} (k0 : Int → Option R) : Option R :=
  k0 (w64 (a1.f_From - a2.f_From))
noncomputable def band_joined_1 [Fuel] : T_band_joined_1 := @band_joined_1_ NN
def SS_band_joined_1 (g : T_band_joined_1) : Spec A := fun args => match args with | [.agg [.d (.int .i64 a1), .d (.int .i64 a2)], .agg [.d (.int .i64 a3), .d (.int .i64 a4)]] => fun k => g ⟨a1, a2⟩ ⟨a3, a4⟩ (fun z0 => k (.d (.int .i64 z0)) [.undef, .undef]) | _ => fun _ => none
noncomputable def code_183 : Code := (Tryz.f183.body).getD .skip
noncomputable def E_band_joined_1 (g : Nat) : Env A := mkE [] [(2, [0]), (3, [1])] [] [] [] [] [] [] [] []
theorem sm_band_joined_1 (g : Nat) : Same (SS_band_joined_1 (@band_joined_1_ g)) (abody (E_band_joined_1 g) Tryz.f183 code_183 2 [] [.asis] g) := by intro args; unfold SS_band_joined_1; split; exact .inr fun R k => (by kernel_rfl); exact .inl fun R k => rfl
theorem ok_band_joined_1 [Fuel] : Ok 183 (SS_band_joined_1 (@band_joined_1 _)) := okF_of std .nil ⟨rfl, rfl, by kernel_rfl, rfl, rfl, rfl⟩ (sm_band_joined_1 NN) (cuts0 (fun _ => rfl) (by kernel_rfl)) Tryz.func183 (by kernel_rfl) (by kernel_rfl)
noncomputable def Ed_band_joined_1 (g : Nat) : Env A := mkED [] [(2, [0]), (3, [1])] [] [] [] [] [] [] [] []
theorem smd_band_joined_1 (g : Nat) : Same (SS_band_joined_1 (@band_joined_1_ g)) (abody (Ed_band_joined_1 g) Tryz.f183 code_183 2 [] [.asis] g) := by intro args; unfold SS_band_joined_1; split; exact .inr fun R k => (by kernel_rfl); exact .inl fun R k => rfl
theorem okd_band_joined_1 [Fuel] : OkD 183 (SS_band_joined_1 (@band_joined_1 _)) := okF_of stdD .nil ⟨rfl, rfl, by kernel_rfl, rfl, rfl, rfl⟩ (smd_band_joined_1 NN) (cuts0 (fun _ => rfl) (by kernel_rfl)) Tryz.func183 (by kernel_rfl) (by kernel_rfl)
abbrev T_slices_SortFunc__Row_band_joined_1 : Type 1 := List G_Row → {R : Type} → (List G_Row → Option R) → Option R
noncomputable def slices_SortFunc__Row_band_joined_1 [Fuel] : T_slices_SortFunc__Row_band_joined_1 := @X_sortf G_Row (@band_joined_1 _)
def SS_slices_SortFunc__Row_band_joined_1 (g : T_slices_SortFunc__Row_band_joined_1) : Spec A := fun args => match args with | [.arr 80 a1, .fn 183 []] => fun k => g a1 (fun z => k (.tup []) [.arr 80 z, .fn 183 []]) | _ => fun _ => none
theorem h1_slices_SortFunc__Row_band_joined_1 [Fuel] (xs : List (A 80)) (R : Type) (k : IV A → List (IV A) → Option R) : SS_slices_SortFunc__Row_band_joined_1 (@slices_SortFunc__Row_band_joined_1 _) [.arr 80 xs, .fn 183 []] k = X_sortf (α := A 80) (@band_joined_1 _) xs (fun z => k (.tup []) [.arr 80 z, .fn 183 []]) := by kernel_rfl
theorem h2_slices_SortFunc__Row_band_joined_1 [Fuel] (args : List (IV A)) (R : Type) (k : IV A → List (IV A) → Option R) (h : ∀ xs : List (A 80), args ≠ [.arr 80 xs, .fn 183 []]) : SS_slices_SortFunc__Row_band_joined_1 (@slices_SortFunc__Row_band_joined_1 _) args k = none := by unfold SS_slices_SortFunc__Row_band_joined_1; split; exact absurd rfl (h _); rfl
theorem hc_slices_SortFunc__Row_band_joined_1 [Fuel] (x y : A 80) (R : Type) (k : Int → Option R) : callOf T (SS_band_joined_1 (@band_joined_1 _)) 80 x y k = @band_joined_1 _ x y R k := by kernel_rfl
theorem hs_slices_SortFunc__Row_band_joined_1 (x : G_Row) : (enc_e80 x).all scal = true := rfl
theorem ok_slices_SortFunc__Row_band_joined_1 [Fuel] : Ok 182 (SS_slices_SortFunc__Row_band_joined_1 (@slices_SortFunc__Row_band_joined_1 _)) := ⟨sortf_sound (tyOk Tryz.prog) (e := 80) Tryz.sortf182 Tryz.isAgg80 Tryz.sizeOf80 (fun x d hd => List.all_eq_true.1 (hs_slices_SortFunc__Row_band_joined_1 x) d hd) hc_slices_SortFunc__Row_band_joined_1 okd_band_joined_1.fs okd_band_joined_1.en h1_slices_SortFunc__Row_band_joined_1 h2_slices_SortFunc__Row_band_joined_1, sortf_na (e := 80) h1_slices_SortFunc__Row_band_joined_1 h2_slices_SortFunc__Row_band_joined_1, enters_of (fn := Tryz.f182) Tryz.func182 (by kernel_rfl) (by kernel_rfl)⟩
abbrev T_band_joined : Type 1 := List G_Row → {R : Type} → (List G_Row → Option R) → Option R
structure C_band_joined where
  N : Nat
  slices_SortFunc__Row_band_joined_1 : T_slices_SortFunc__Row_band_joined_1
def band_joined_L4 (g : C_band_joined) : Nat → Int → Int → List G_Row → List G_Row → {R : Type} → (List G_Row → Option R) → Option R
  | 0, _, _, _, _, _, _ => none
  | n + 1, v3, v4, v5, v6, _, e0 => (bif (decide (v4 < v3)) then (inr v5 v4 (at_ v5 v4 fun x11 => (bif (decide ((w64 ((v6.length : Int) - 1)) ≥ 0)) then (inr v6 (w64 ((v6.length : Int) - 1)) (at_ v6 (w64 ((v6.length : Int) - 1)) fun x12 => (bif (decide (x11.f_From ≤ x12.f_To)) then (inr v6 (w64 ((v6.length : Int) - 1)) (at_ v6 (w64 ((v6.length : Int) - 1)) fun x13 => (inr v6 (w64 ((v6.length : Int) - 1)) (at_ v6 (w64 ((v6.length : Int) - 1)) fun x14 => band_joined_L4 g n v3 (w64 (v4 + 1)) v5 (set_ v6 (w64 ((v6.length : Int) - 1)) (⟨x14.f_From, (if x11.f_To > x13.f_To then x11.f_To else x13.f_To)⟩ : G_Row)) e0)))) else (bif (decide ((v6.length + [x11].length) * 16 ≤ roomBytes')) then band_joined_L4 g n v3 (w64 (v4 + 1)) v5 (v6 ++ [x11]) e0 else none)))) else (bif (decide ((v6.length + [x11].length) * 16 ≤ roomBytes')) then band_joined_L4 g n v3 (w64 (v4 + 1)) v5 (v6 ++ [x11]) e0 else none)))) else e0 v6)
def band_joined_ (g : C_band_joined) (a1 : List G_Row) {R : Type} (k0 : List G_Row → Option R) : Option R :=
  (g.slices_SortFunc__Row_band_joined_1 a1 (fun r2 => (band_joined_L4 g g.N (r2.length : Int) 0 r2 [] (fun e15 => k0 e15))))
noncomputable def I_band_joined [Fuel] : C_band_joined := ⟨NN, @slices_SortFunc__Row_band_joined_1 _⟩
noncomputable def band_joined [Fuel] : T_band_joined := @band_joined_ I_band_joined
def SS_band_joined (g : T_band_joined) : Spec A := fun args => match args with | [.arr 80 a1] => fun k => g a1 (fun z0 => k (.arr 80 z0) [.undef]) | _ => fun _ => none
def sh_band_joined_L4 : SSt := mkSh 48 5 [(3, .own 80 1), (9, .own 80 0), (10, .int .i64), (11, .int .i64)] [(0, .row 80), (1, .row 80)]
def LP_band_joined_L4 (g : C_band_joined) (n : Nat) : LPT A := fun ps => match ps with | [.d (.int .i64 p1), .d (.int .i64 p2), .d (.sl 80 p3), .d (.sl 80 p4)] => fun K => band_joined_L4 g n p1 p2 p3 p4 (fun z0 => K (.exit 0) (mkSt 48 5 [(3, .own 80 1)] [(1, some (.row 80 z0))])) | _ => fun _ => none
noncomputable def code_131 : Code := (Tryz.f131.body).getD .skip
noncomputable def E_band_joined (g : C_band_joined) : Env A := mkE [(182, SS_slices_SortFunc__Row_band_joined_1 g.slices_SortFunc__Row_band_joined_1)] [(5, [2]), (44, [3]), (45, [4])] [(4, ⟨[3, 9, 10, 11], [(3, 80, 1)], [0], []⟩)] [(4, ⟨[3], [], [1], []⟩)] [(4, pieceOf sh_band_joined_L4 (LP_band_joined_L4 g g.N))] [] [] [] [(182, 0)] []
theorem ct_band_joined [Fuel] : NatTab (E_band_joined I_band_joined).C := ct_of (P := Tryz.prog) (T := T) (.cons ok_slices_SortFunc__Row_band_joined_1 .nil) (by kernel_rfl)
noncomputable def cb_band_joined_L4 : Code := sub [1, 1, 1, 0, 1, 0, 0] code_131
theorem s_band_joined_L4 (g : C_band_joined) (n : Nat) : StepOk (E_band_joined g) g.N cb_band_joined_L4 sh_band_joined_L4 (LP_band_joined_L4 g) n := by intro ps; unfold LP_band_joined_L4; split; exact .inr fun R K => (by kernel_rfl); exact .inl fun R K => rfl
theorem lf_band_joined_L4 [Fuel] : LoopFine (E_band_joined I_band_joined) NN cb_band_joined_L4 := fine_loop sh_band_joined_L4 (LP_band_joined_L4 I_band_joined) (by kernel_rfl) ct_band_joined (cuts0 (fun _ => rfl) (by kernel_rfl)) (fun ps R K => by unfold LP_band_joined_L4; split <;> (try unfold band_joined_L4) <;> rfl) (s_band_joined_L4 I_band_joined)
theorem sm_band_joined (g : C_band_joined) : Same (SS_band_joined (@band_joined_ g)) (abody (E_band_joined g) Tryz.f131 code_131 5 [0] [.arr 80] g.N) := by intro args; unfold SS_band_joined; split; exact .inr fun R k => (by kernel_rfl); exact .inl fun R k => rfl
theorem ok_band_joined [Fuel] : Ok 131 (SS_band_joined (@band_joined _)) := okF_of std (.cons ok_slices_SortFunc__Row_band_joined_1 .nil) ⟨rfl, rfl, by kernel_rfl, rfl, rfl, rfl⟩ (sm_band_joined I_band_joined) (cutsL (fun _ => rfl) (.cons lf_band_joined_L4 .nil) (by kernel_rfl)) Tryz.func131 (by kernel_rfl) (by kernel_rfl)
abbrev T_band_permitted : Type 1 := List G_Segment → List UInt8 → Int → Int → {R : Type} → (List G_Row → Option R) → Option R
structure C_band_permitted where
  N : Nat
  kit_Has : T_kit_Has
  band_joined : T_band_joined
  slices_Contains__int : T_slices_Contains__int
def band_permitted_L3 (g : C_band_permitted) : Nat → List UInt8 → Int → Int → List G_Segment → Int → Int → List G_Row → {R : Type} → (List G_Row → Option R) → Option R
  | 0, _, _, _, _, _, _, _, _, _ => none
  | n + 1, v5, v6, v7, v8, v9, v10, v11, _, e0 => (bif (decide (v10 < v9)) then (get_ v8 v10 fun x16 => (bif (x16.f_Class == v5) then (bif (v6 == 0) then (g.kit_Has x16.f_Time v7 (fun r17 => (bif r17 then (bif (decide ((v11.length + [(⟨x16.f_Low, x16.f_High⟩ : G_Row)].length) * 16 ≤ roomBytes')) then band_permitted_L3 g n v5 v6 v7 v8 v9 (w64 (v10 + 1)) (v11 ++ [(⟨x16.f_Low, x16.f_High⟩ : G_Row)]) e0 else none) else band_permitted_L3 g n v5 v6 v7 v8 v9 (w64 (v10 + 1)) v11 e0))) else (g.slices_Contains__int x16.f_Modes v6 (fun r18 => (bif r18 then (g.kit_Has x16.f_Time v7 (fun r19 => (bif r19 then (bif (decide ((v11.length + [(⟨x16.f_Low, x16.f_High⟩ : G_Row)].length) * 16 ≤ roomBytes')) then band_permitted_L3 g n v5 v6 v7 v8 v9 (w64 (v10 + 1)) (v11 ++ [(⟨x16.f_Low, x16.f_High⟩ : G_Row)]) e0 else none) else band_permitted_L3 g n v5 v6 v7 v8 v9 (w64 (v10 + 1)) v11 e0))) else band_permitted_L3 g n v5 v6 v7 v8 v9 (w64 (v10 + 1)) v11 e0)))) else band_permitted_L3 g n v5 v6 v7 v8 v9 (w64 (v10 + 1)) v11 e0)) else e0 v11)
def band_permitted_ (g : C_band_permitted) (a1 : List G_Segment) (a2 : List UInt8) (a3 a4 : Int) {R : Type} (k0 : List G_Row → Option R) : Option R :=
  (band_permitted_L3 g g.N a2 a3 a4 a1 (a1.length : Int) 0 [] (fun e20 => (g.band_joined e20 (fun r21 => k0 r21))))
noncomputable def I_band_permitted [Fuel] : C_band_permitted := ⟨NN, @kit_Has _, @band_joined _, @slices_Contains__int _⟩
noncomputable def band_permitted [Fuel] : T_band_permitted := @band_permitted_ I_band_permitted
def SS_band_permitted (g : T_band_permitted) : Spec A := fun args => match args with | [.d (.sl 115 a1), .d (.str a2), .d (.int .i64 a3), .d (.int .i64 a4)] => fun k => g a1 a2 a3 a4 (fun z0 => k (.arr 80 z0) [.undef, .undef, .undef, .undef]) | _ => fun _ => none
def sh_band_permitted_L3 : SSt := mkSh 49 5 [(1, .str), (2, .int .i64), (3, .int .i64), (9, .own 80 0), (12, .sl 115), (13, .int .i64), (14, .int .i64)] [(0, .row 80)]
def LP_band_permitted_L3 (g : C_band_permitted) (n : Nat) : LPT A := fun ps => match ps with | [.d (.str p1), .d (.int .i64 p2), .d (.int .i64 p3), .d (.sl 115 p4), .d (.int .i64 p5), .d (.int .i64 p6), .d (.sl 80 p7)] => fun K => band_permitted_L3 g n p1 p2 p3 p4 p5 p6 p7 (fun z0 => K (.exit 0) (mkSt 49 5 [(9, .own 80 0)] [(0, some (.row 80 z0))])) | _ => fun _ => none
noncomputable def code_129 : Code := (Tryz.f129.body).getD .skip
noncomputable def E_band_permitted (g : C_band_permitted) : Env A := mkE [(90, SS_kit_Has g.kit_Has), (131, SS_band_joined g.band_joined), (137, SS_slices_Contains__int g.slices_Contains__int)] [(11, [1]), (44, [2]), (45, [3]), (48, [4])] [(3, ⟨[1, 2, 3, 9, 12, 13, 14], [(9, 80, 0)], [], []⟩)] [(3, ⟨[9], [], [0], []⟩)] [(3, pieceOf sh_band_permitted_L3 (LP_band_permitted_L3 g g.N))] [] [] [] [(131, 0)] []
theorem ct_band_permitted [Fuel] : NatTab (E_band_permitted I_band_permitted).C := ct_of (P := Tryz.prog) (T := T) (.cons ok_kit_Has (.cons ok_band_joined (.cons ok_slices_Contains__int .nil))) (by kernel_rfl)
noncomputable def cb_band_permitted_L3 : Code := sub [1, 1, 0, 1, 0, 0] code_129
theorem s_band_permitted_L3 (g : C_band_permitted) (n : Nat) : StepOk (E_band_permitted g) g.N cb_band_permitted_L3 sh_band_permitted_L3 (LP_band_permitted_L3 g) n := by intro ps; unfold LP_band_permitted_L3; split; exact .inr fun R K => (by kernel_rfl); exact .inl fun R K => rfl
theorem lf_band_permitted_L3 [Fuel] : LoopFine (E_band_permitted I_band_permitted) NN cb_band_permitted_L3 := fine_loop sh_band_permitted_L3 (LP_band_permitted_L3 I_band_permitted) (by kernel_rfl) ct_band_permitted (cuts0 (fun _ => rfl) (by kernel_rfl)) (fun ps R K => by unfold LP_band_permitted_L3; split <;> (try unfold band_permitted_L3) <;> rfl) (s_band_permitted_L3 I_band_permitted)
theorem sm_band_permitted (g : C_band_permitted) : Same (SS_band_permitted (@band_permitted_ g)) (abody (E_band_permitted g) Tryz.f129 code_129 5 [] [.arr 80] g.N) := by intro args; unfold SS_band_permitted; split; exact .inr fun R k => (by kernel_rfl); exact .inl fun R k => rfl
theorem ok_band_permitted [Fuel] : Ok 129 (SS_band_permitted (@band_permitted _)) := okF_of std (.cons ok_kit_Has (.cons ok_band_joined (.cons ok_slices_Contains__int .nil))) ⟨rfl, rfl, by kernel_rfl, rfl, rfl, rfl⟩ (sm_band_permitted I_band_permitted) (cutsL (fun _ => rfl) (.cons lf_band_permitted_L3 .nil) (by kernel_rfl)) Tryz.func129 (by kernel_rfl) (by kernel_rfl)
abbrev T_band_without : Type 1 := List G_Row → List G_Row → {R : Type} → (List G_Row → Option R) → Option R
def band_without_L7 (g : Nat) : Nat → List G_Row → Int → List G_Row → Int → Int → List G_Row → Int → Int → G_Row → List G_Row → {R : Type} → (List G_Row → Int → List G_Row → Int → Int → G_Row → List G_Row → Option R) → Option R
  | 0, _, _, _, _, _, _, _, _, _, _, _, _ => none
  | n + 1, v29, v30, v31, v32, v33, v34, v35, v36, v37, v38, _, e0 => (bif (decide (v36 < v35)) then (get_ v34 v36 fun x40 => (bif (decide (x40.f_To ≤ v30)) then band_without_L7 g n v29 v30 v31 v32 v33 v34 v35 (w64 (v36 + 1)) v37 v38 e0 else (bif (decide (x40.f_From ≥ v37.f_To)) then band_without_L7 g n v29 v30 v31 v32 v33 v34 v35 (w64 (v36 + 1)) v37 v38 e0 else (bif (decide (x40.f_From > v30)) then (bif (decide ((v38.length + [(⟨v30, x40.f_From⟩ : G_Row)].length) * 16 ≤ roomBytes')) then band_without_L7 g n v29 x40.f_To v31 v32 v33 v34 v35 (w64 (v36 + 1)) v37 (v38 ++ [(⟨v30, x40.f_From⟩ : G_Row)]) e0 else none) else band_without_L7 g n v29 x40.f_To v31 v32 v33 v34 v35 (w64 (v36 + 1)) v37 v38 e0)))) else e0 v29 v30 v31 v32 v33 v37 v38)
def band_without_L3 (g : Nat) : Nat → List G_Row → List G_Row → Int → Int → List G_Row → {R : Type} → (List G_Row → Option R) → Option R
  | 0, _, _, _, _, _, _, _ => none
  | n + 1, v3, v4, v5, v6, v7, _, e0 => (bif (decide (v6 < v5)) then (get_ v4 v6 fun x28 => (band_without_L7 g g v3 x28.f_From v4 v5 v6 v3 (v3.length : Int) 0 x28 v7 (fun e41 e42 e43 e44 e45 e46 e47 => (bif (decide (e42 < e46.f_To)) then (bif (decide ((e47.length + [(⟨e42, e46.f_To⟩ : G_Row)].length) * 16 ≤ roomBytes')) then band_without_L3 g n e41 e43 e44 (w64 (e45 + 1)) (e47 ++ [(⟨e42, e46.f_To⟩ : G_Row)]) e0 else none) else band_without_L3 g n e41 e43 e44 (w64 (e45 + 1)) e47 e0)))) else e0 v7)
def band_without_ (g : Nat) (a1 a2 : List G_Row) {R : Type} (k0 : List G_Row → Option R) : Option R :=
  (band_without_L3 g g a2 a1 (a1.length : Int) 0 [] (fun e48 => k0 e48))
noncomputable def band_without [Fuel] : T_band_without := @band_without_ NN
def SS_band_without (g : T_band_without) : Spec A := fun args => match args with | [.d (.sl 80 a1), .d (.sl 80 a2)] => fun k => g a1 a2 (fun z0 => k (.arr 80 z0) [.undef, .undef]) | _ => fun _ => none
def sh_band_without_L7 : SSt := mkSh 63 8 [(1, .sl 80), (5, .own 80 2), (7, .ptr 1 0), (8, .int .i64), (11, .sl 80), (12, .int .i64), (13, .int .i64), (19, .sl 80), (20, .int .i64), (21, .int .i64)] [(1, .box [.int .i64, .int .i64]), (2, .row 80)]
def LP_band_without_L7 (g : Nat) (n : Nat) : LPT A := fun ps => match ps with | [.d (.sl 80 p1), .d (.int .i64 p2), .d (.sl 80 p3), .d (.int .i64 p4), .d (.int .i64 p5), .d (.sl 80 p6), .d (.int .i64 p7), .d (.int .i64 p8), .d (.int .i64 p9), .d (.int .i64 p10), .d (.sl 80 p11)] => fun K => band_without_L7 g n p1 p2 p3 p4 p5 p6 p7 p8 ⟨p9, p10⟩ p11 (fun z0 z1 z2 z3 z4 z5 z6 => K (.exit 2) (mkSt 63 8 [(1, .d (.sl 80 z0)), (5, .own 80 2), (7, .ptr 1 0), (8, .d (.int .i64 z1)), (11, .d (.sl 80 z2)), (12, .d (.int .i64 z3)), (13, .d (.int .i64 z4))] [(1, some (.box [.d (.int .i64 z5.f_From), .d (.int .i64 z5.f_To)])), (2, some (.row 80 z6))])) | _ => fun _ => none
def sh_band_without_L3 : SSt := mkSh 63 8 [(1, .sl 80), (5, .own 80 0), (11, .sl 80), (12, .int .i64), (13, .int .i64)] [(0, .row 80)]
def LP_band_without_L3 (g : Nat) (n : Nat) : LPT A := fun ps => match ps with | [.d (.sl 80 p1), .d (.sl 80 p2), .d (.int .i64 p3), .d (.int .i64 p4), .d (.sl 80 p5)] => fun K => band_without_L3 g n p1 p2 p3 p4 p5 (fun z0 => K (.exit 0) (mkSt 63 8 [(5, .own 80 0)] [(0, some (.row 80 z0))])) | _ => fun _ => none
noncomputable def code_130 : Code := (Tryz.f130.body).getD .skip
noncomputable def E_band_without (g : Nat) : Env A := mkE [] [(7, [1]), (10, [3]), (45, [4]), (46, [5]), (59, [6]), (60, [7])] [(7, ⟨[1, 5, 7, 8, 11, 12, 13, 19, 20, 21], [(5, 80, 2)], [1], []⟩), (3, ⟨[1, 5, 11, 12, 13], [(5, 80, 0)], [], []⟩)] [(7, ⟨[1, 5, 7, 8, 11, 12, 13], [], [1, 2], []⟩), (3, ⟨[5], [], [0], []⟩)] [(7, pieceOf sh_band_without_L7 (LP_band_without_L7 g g)), (3, pieceOf sh_band_without_L3 (LP_band_without_L3 g g))] [] [] [] [] []
theorem ct_band_without [Fuel] : NatTab (E_band_without NN).C := ct_of (P := Tryz.prog) (T := T) .nil (by kernel_rfl)
noncomputable def cb_band_without_L7 : Code := sub [1, 1, 0, 1, 0, 0, 1, 1, 0, 0, 1, 1, 0, 1, 0, 0] code_130
theorem s_band_without_L7 (g : Nat) (n : Nat) : StepOk (E_band_without g) g cb_band_without_L7 sh_band_without_L7 (LP_band_without_L7 g) n := by intro ps; unfold LP_band_without_L7; split; exact .inr fun R K => (by kernel_rfl); exact .inl fun R K => rfl
theorem lf_band_without_L7 [Fuel] : LoopFine (E_band_without NN) NN cb_band_without_L7 := fine_loop sh_band_without_L7 (LP_band_without_L7 NN) (by kernel_rfl) ct_band_without (cuts0 (fun _ => rfl) (by kernel_rfl)) (fun ps R K => by unfold LP_band_without_L7; split <;> (try unfold band_without_L7) <;> rfl) (s_band_without_L7 NN)
noncomputable def cb_band_without_L3 : Code := sub [1, 1, 0, 1, 0, 0] code_130
theorem s_band_without_L3 (g : Nat) (n : Nat) : StepOk (E_band_without g) g cb_band_without_L3 sh_band_without_L3 (LP_band_without_L3 g) n := by intro ps; unfold LP_band_without_L3; split; exact .inr fun R K => (by kernel_rfl); exact .inl fun R K => rfl
theorem lf_band_without_L3 [Fuel] : LoopFine (E_band_without NN) NN cb_band_without_L3 := fine_loop sh_band_without_L3 (LP_band_without_L3 NN) (by kernel_rfl) ct_band_without (cutsL (fun _ => rfl) (.cons lf_band_without_L7 .nil) (by kernel_rfl)) (fun ps R K => by unfold LP_band_without_L3; split <;> (try unfold band_without_L3) <;> rfl) (s_band_without_L3 NN)
theorem sm_band_without (g : Nat) : Same (SS_band_without (@band_without_ g)) (abody (E_band_without g) Tryz.f130 code_130 8 [] [.arr 80] g) := by intro args; unfold SS_band_without; split; exact .inr fun R k => (by kernel_rfl); exact .inl fun R k => rfl
theorem ok_band_without [Fuel] : Ok 130 (SS_band_without (@band_without _)) := okF_of std .nil ⟨rfl, rfl, by kernel_rfl, rfl, rfl, rfl⟩ (sm_band_without NN) (cutsL (fun _ => rfl) (.cons lf_band_without_L7 (.cons lf_band_without_L3 .nil)) (by kernel_rfl)) Tryz.func130 (by kernel_rfl) (by kernel_rfl)
abbrev T_band_free : Type 1 := List G_Segment → List G_Busy → List UInt8 → Int → Int → Int → {R : Type} → (List G_Row → Option R) → Option R
structure C_band_free where
  N : Nat
  band_used : T_band_used
  kit_Has : T_kit_Has
  band_permitted : T_band_permitted
  band_without : T_band_without
  band_joined : T_band_joined
def band_free_L3 (g : C_band_free) : Nat → List G_Busy → Int → Int → Int → Int → List G_Row → List G_Row → {R : Type} → (List G_Busy → Int → Int → List G_Row → Option R) → Option R
  | 0, _, _, _, _, _, _, _, _, _ => none
  | n + 1, v8, v9, v10, v11, v12, v13, v14, _, e0 => (bif (decide (v12 < v11)) then (inr v13 v12 (at_ v13 v12 fun x16 => (bif (decide ((w64 (x16.f_To - x16.f_From)) ≥ v9)) then (bif (decide ((v14.length + [(⟨(w64 (x16.f_From + (w64 (Int.tdiv v9 2)))), (w64 ((w64 ((w64 (x16.f_To - v9)) + (w64 (Int.tdiv v9 2)))) + 1))⟩ : G_Row)].length) * 16 ≤ roomBytes')) then band_free_L3 g n v8 v9 v10 v11 (w64 (v12 + 1)) v13 (v14 ++ [(⟨(w64 (x16.f_From + (w64 (Int.tdiv v9 2)))), (w64 ((w64 ((w64 (x16.f_To - v9)) + (w64 (Int.tdiv v9 2)))) + 1))⟩ : G_Row)]) e0 else none) else band_free_L3 g n v8 v9 v10 v11 (w64 (v12 + 1)) v13 v14 e0))) else e0 v8 v9 v10 v14)
def band_free_L9 (g : C_band_free) : Nat → Int → Int → List G_Busy → Int → Int → List G_Row → List G_Row → {R : Type} → (List G_Row → List G_Row → Option R) → Option R
  | 0, _, _, _, _, _, _, _, _, _ => none
  | n + 1, v21, v22, v23, v24, v25, v26, v27, _, e0 => (bif (decide (v25 < v24)) then (get_ v23 v25 fun x31 => (g.kit_Has x31.f_Time v22 (fun r32 => (bif r32 then (g.band_used x31.f_Hertz x31.f_Width (fun r33 => (bif (decide ((v27.length + [(⟨(w64 ((w64 ((w64 (r33.f_From - v21)) + (w64 (Int.tdiv v21 2)))) + 1)), (w64 (r33.f_To + (w64 (Int.tdiv v21 2))))⟩ : G_Row)].length) * 16 ≤ roomBytes')) then band_free_L9 g n v21 v22 v23 v24 (w64 (v25 + 1)) v26 (v27 ++ [(⟨(w64 ((w64 ((w64 (r33.f_From - v21)) + (w64 (Int.tdiv v21 2)))) + 1)), (w64 (r33.f_To + (w64 (Int.tdiv v21 2))))⟩ : G_Row)]) e0 else none))) else band_free_L9 g n v21 v22 v23 v24 (w64 (v25 + 1)) v26 v27 e0)))) else e0 v26 v27)
def band_free_ (g : C_band_free) (a1 : List G_Segment) (a2 : List G_Busy) (a3 : List UInt8) (a4 a5 a6 : Int) {R : Type} (k0 : List G_Row → Option R) : Option R :=
  (g.band_permitted a1 a3 a4 a6 (fun r7 => (band_free_L3 g g.N a2 a5 a6 (r7.length : Int) 0 r7 [] (fun e17 e18 e19 e20 => (band_free_L9 g g.N e18 e19 e17 (e17.length : Int) 0 e20 [] (fun e34 e35 => (g.band_joined e34 (fun r36 => (g.band_joined e35 (fun r37 => (g.band_without r36 r37 (fun r38 => k0 r38))))))))))))
noncomputable def I_band_free [Fuel] : C_band_free := ⟨NN, @band_used _, @kit_Has _, @band_permitted _, @band_without _, @band_joined _⟩
noncomputable def band_free [Fuel] : T_band_free := @band_free_ I_band_free
def SS_band_free (g : T_band_free) : Spec A := fun args => match args with | [.d (.sl 115 a1), .d (.sl 120 a2), .d (.str a3), .d (.int .i64 a4), .d (.int .i64 a5), .d (.int .i64 a6)] => fun k => g a1 a2 a3 a4 a5 a6 (fun z0 => k (.arr 80 z0) [.undef, .undef, .undef, .undef, .undef, .undef]) | _ => fun _ => none
def sh_band_free_L3 : SSt := mkSh 93 13 [(1, .sl 120), (4, .int .i64), (5, .int .i64), (13, .own 80 1), (14, .nsl), (24, .own 80 0), (25, .int .i64), (26, .int .i64)] [(0, .row 80), (1, .row 80)]
def LP_band_free_L3 (g : C_band_free) (n : Nat) : LPT A := fun ps => match ps with | [.d (.sl 120 p1), .d (.int .i64 p2), .d (.int .i64 p3), .d (.int .i64 p4), .d (.int .i64 p5), .d (.sl 80 p6), .d (.sl 80 p7)] => fun K => band_free_L3 g n p1 p2 p3 p4 p5 p6 p7 (fun z0 z1 z2 z3 => K (.exit 0) (mkSt 93 13 [(1, .d (.sl 120 z0)), (4, .d (.int .i64 z1)), (5, .d (.int .i64 z2)), (13, .own 80 1), (14, .d .nsl)] [(1, some (.row 80 z3))])) | _ => fun _ => none
def sh_band_free_L9 : SSt := mkSh 93 13 [(4, .int .i64), (5, .int .i64), (13, .own 80 1), (14, .own 80 5), (55, .sl 120), (56, .int .i64), (57, .int .i64)] [(1, .row 80), (5, .row 80)]
def LP_band_free_L9 (g : C_band_free) (n : Nat) : LPT A := fun ps => match ps with | [.d (.int .i64 p1), .d (.int .i64 p2), .d (.sl 120 p3), .d (.int .i64 p4), .d (.int .i64 p5), .d (.sl 80 p6), .d (.sl 80 p7)] => fun K => band_free_L9 g n p1 p2 p3 p4 p5 p6 p7 (fun z0 z1 => K (.exit 2) (mkSt 93 13 [(13, .own 80 1), (14, .own 80 5)] [(1, some (.row 80 z0)), (5, some (.row 80 z1))])) | _ => fun _ => none
noncomputable def code_88 : Code := (Tryz.f88.body).getD .skip
noncomputable def E_band_free (g : C_band_free) : Env A := mkE [(86, SS_band_used g.band_used), (90, SS_kit_Has g.kit_Has), (129, SS_band_permitted g.band_permitted), (130, SS_band_without g.band_without), (131, SS_band_joined g.band_joined)] [(16, [2]), (18, [6]), (19, [7]), (24, [0]), (52, [3]), (53, [4]), (85, [8]), (86, [9]), (89, [10]), (91, [11]), (92, [12])] [(3, ⟨[1, 4, 5, 13, 14, 24, 25, 26], [(13, 80, 1)], [0], []⟩), (9, ⟨[4, 5, 13, 14, 55, 56, 57], [(14, 80, 5)], [1], []⟩)] [(3, ⟨[1, 4, 5, 13, 14], [], [1], []⟩), (9, ⟨[13, 14], [], [1, 5], []⟩)] [(3, pieceOf sh_band_free_L3 (LP_band_free_L3 g g.N)), (9, pieceOf sh_band_free_L9 (LP_band_free_L9 g g.N))] [] [] [] [(131, 0)] []
theorem ct_band_free [Fuel] : NatTab (E_band_free I_band_free).C := ct_of (P := Tryz.prog) (T := T) (.cons ok_band_used (.cons ok_kit_Has (.cons ok_band_permitted (.cons ok_band_without (.cons ok_band_joined .nil))))) (by kernel_rfl)
noncomputable def cb_band_free_L3 : Code := sub [1, 1, 0, 1, 0, 0] code_88
theorem s_band_free_L3 (g : C_band_free) (n : Nat) : StepOk (E_band_free g) g.N cb_band_free_L3 sh_band_free_L3 (LP_band_free_L3 g) n := by intro ps; unfold LP_band_free_L3; split; exact .inr fun R K => (by kernel_rfl); exact .inl fun R K => rfl
theorem lf_band_free_L3 [Fuel] : LoopFine (E_band_free I_band_free) NN cb_band_free_L3 := fine_loop sh_band_free_L3 (LP_band_free_L3 I_band_free) (by kernel_rfl) ct_band_free (cuts0 (fun _ => rfl) (by kernel_rfl)) (fun ps R K => by unfold LP_band_free_L3; split <;> (try unfold band_free_L3) <;> rfl) (s_band_free_L3 I_band_free)
noncomputable def cb_band_free_L9 : Code := sub [1, 1, 1, 0, 1, 0, 0] code_88
theorem s_band_free_L9 (g : C_band_free) (n : Nat) : StepOk (E_band_free g) g.N cb_band_free_L9 sh_band_free_L9 (LP_band_free_L9 g) n := by intro ps; unfold LP_band_free_L9; split; exact .inr fun R K => (by kernel_rfl); exact .inl fun R K => rfl
theorem lf_band_free_L9 [Fuel] : LoopFine (E_band_free I_band_free) NN cb_band_free_L9 := fine_loop sh_band_free_L9 (LP_band_free_L9 I_band_free) (by kernel_rfl) ct_band_free (cuts0 (fun _ => rfl) (by kernel_rfl)) (fun ps R K => by unfold LP_band_free_L9; split <;> (try unfold band_free_L9) <;> rfl) (s_band_free_L9 I_band_free)
theorem sm_band_free (g : C_band_free) : Same (SS_band_free (@band_free_ g)) (abody (E_band_free g) Tryz.f88 code_88 13 [] [.arr 80] g.N) := by intro args; unfold SS_band_free; split; exact .inr fun R k => (by kernel_rfl); exact .inl fun R k => rfl
theorem ok_band_free [Fuel] : Ok 88 (SS_band_free (@band_free _)) := okF_of std (.cons ok_band_used (.cons ok_kit_Has (.cons ok_band_permitted (.cons ok_band_without (.cons ok_band_joined .nil))))) ⟨rfl, rfl, by kernel_rfl, rfl, rfl, rfl⟩ (sm_band_free I_band_free) (cutsL (fun _ => rfl) (.cons lf_band_free_L3 (.cons lf_band_free_L9 .nil)) (by kernel_rfl)) Tryz.func88 (by kernel_rfl) (by kernel_rfl)
abbrev T_band_Free : Type 1 := List G_Segment → List G_Busy → List UInt8 → Int → Int → Int → {R : Type} → (List G_Row → Int → Option R) → Option R
structure C_band_Free where
  N : Nat
  band_freeFault : T_band_freeFault
  band_free : T_band_free
def band_Free_ (g : C_band_Free) (a1 : List G_Segment) (a2 : List G_Busy) (a3 : List UInt8) (a4 a5 a6 : Int) {R : Type} (k0 : List G_Row → Int → Option R) : Option R :=
  (g.band_freeFault a1 a2 a3 a4 a5 a6 (fun r7 => (bif (r7 != 0) then k0 [] r7 else (g.band_free a1 a2 a3 a4 a5 a6 (fun r8 => k0 r8 0)))))
noncomputable def I_band_Free [Fuel] : C_band_Free := ⟨NN, @band_freeFault _, @band_free _⟩
noncomputable def band_Free [Fuel] : T_band_Free := @band_Free_ I_band_Free
def SS_band_Free (g : T_band_Free) : Spec A := fun args => match args with | [.d (.sl 115 a1), .d (.sl 120 a2), .d (.str a3), .d (.int .i64 a4), .d (.int .i64 a5), .d (.int .i64 a6)] => fun k => g a1 a2 a3 a4 a5 a6 (fun z0 z1 => k (.tup [.arr 80 z0, .d (.int .i64 z1)]) [.undef, .undef, .undef, .undef, .undef, .undef]) | _ => fun _ => none
noncomputable def code_30 : Code := (Tryz.f30.body).getD .skip
noncomputable def E_band_Free (g : C_band_Free) : Env A := mkE [(87, SS_band_freeFault g.band_freeFault), (88, SS_band_free g.band_free)] [(31, [0])] [] [] [] [] [] [] [] []
theorem sm_band_Free (g : C_band_Free) : Same (SS_band_Free (@band_Free_ g)) (abody (E_band_Free g) Tryz.f30 code_30 1 [] [.arr 80, .asis] g.N) := by intro args; unfold SS_band_Free; split; exact .inr fun R k => (by kernel_rfl); exact .inl fun R k => rfl
theorem ok_band_Free [Fuel] : Ok 30 (SS_band_Free (@band_Free _)) := okF_of std (.cons ok_band_freeFault (.cons ok_band_free .nil)) ⟨rfl, rfl, by kernel_rfl, rfl, rfl, rfl⟩ (sm_band_Free I_band_Free) (cuts0 (fun _ => rfl) (by kernel_rfl)) Tryz.func30 (by kernel_rfl) (by kernel_rfl)
abbrev T_band_Nearest_1 : Type 1 := Int → Int → {R : Type} → (Int → Int → Option R) → Option R
def band_Nearest_1_ (g : Nat) (a1 a2 : Int) {R : Type} (k0 : Int → Int → Option R) : Option R :=
  k0 (if (w64 (a2 - a1)) > (w64 (a1 - a2)) then (w64 (a2 - a1)) else (w64 (a1 - a2))) a2
noncomputable def band_Nearest_1 [Fuel] : T_band_Nearest_1 := @band_Nearest_1_ NN
def SS_band_Nearest_1 (g : T_band_Nearest_1) : Spec A := fun args => match args with | [.d (.int .i64 a1), .box [.d (.int .i64 a2)]] => fun k => g a1 a2 (fun z0 z1 => k (.d (.int .i64 z0)) [.undef, .box [.d (.int .i64 z1)]]) | _ => fun _ => none
noncomputable def code_89 : Code := (Tryz.f89.body).getD .skip
noncomputable def E_band_Nearest_1 (g : Nat) : Env A := mkE [] [] [] [] [] [] [] [] [] [1]
theorem sm_band_Nearest_1 (g : Nat) : Same (SS_band_Nearest_1 (@band_Nearest_1_ g)) (abody (E_band_Nearest_1 g) Tryz.f89 code_89 1 [0] [.asis] g) := by intro args; unfold SS_band_Nearest_1; split; exact .inr fun R k => (by kernel_rfl); exact .inl fun R k => rfl
theorem ok_band_Nearest_1 [Fuel] : Ok 89 (SS_band_Nearest_1 (@band_Nearest_1 _)) := okF_of std .nil ⟨rfl, rfl, by kernel_rfl, rfl, rfl, rfl⟩ (sm_band_Nearest_1 NN) (cuts0 (fun _ => rfl) (by kernel_rfl)) Tryz.func89 (by kernel_rfl) (by kernel_rfl)
end Go.Am
