/- The functions of the program as Lean functions, each shown to be what the code computes, part 5. No condition: lemmas for the claim. -/
import Derived.Test.YtonhhbcacemaiaaGreatDoorF0
import Derived.Test.YtonhhbcacemaiaaGreatDoorFSh
import Derived.Test.YtonhhbcacemaiaaGreatDoorF1
import Derived.Test.YtonhhbcacemaiaaGreatDoorF3
import Derived.Test.YtonhhbcacemaiaaGreatDoorF4
set_option linter.unusedVariables false
set_option maxRecDepth 100000
namespace Go.Am
open Go Go.Proofs
abbrev T_z32z : Type 1 := List G_Segment → {R : Type} → (Int → Option R) → Option R
structure C_z32z where
 N : Nat
 kit_IsKey : T_kit_IsKey
 z40z : T_z40z
 kit_IsTime : T_kit_IsTime
 z64z : T_z64z
def z32z_L4 (g : C_z32z) : Nat → List G_Segment → List G_Segment → Int → Int → {R : Type} → (Int → Option R) → Option R → Option R
 | 0, _, _, _, _, _, _, _ => none
 | n + 1, v2, v3, v4, v5, _, e0, e1 => (bif (decide (v5 < v4)) then (get_ v3 v5 fun x12 => (g.kit_IsKey x12.f_Class (fun r13 => (bif (!r13) then e0 5 else (bif (decide (x12.f_Low < 0)) then e0 1 else (bif (decide (x12.f_Low ≥ x12.f_High)) then e0 1 else (bif (decide (x12.f_High > 30000000000)) then e0 1 else (g.z40z x12.f_Modes (fun r14 => (bif (r14 != 0) then e0 r14 else (g.kit_IsTime x12.f_Time (fun r15 => (bif (!r15) then e0 1 else (bif (decide (v5 > 0)) then (get_ v2 (w64 (v5 - 1)) fun x16 => (g.z64z x16 x12 (fun r17 => (bif (decide (r17 ≥ 0)) then e0 7 else z32z_L4 g n v2 v3 v4 (w64 (v5 + 1)) e0 e1)))) else z32z_L4 g n v2 v3 v4 (w64 (v5 + 1)) e0 e1)))))))))))))) else e1)
def z32z_ (g : C_z32z) (a1 : List G_Segment) {R : Type} (k0 : Int → Option R) : Option R :=
 (bif (decide ((a1.length : Int) > 500)) then k0 2 else (z32z_L4 g g.N a1 a1 (a1.length : Int) 0 (fun e18 => k0 e18) (k0 0)))
noncomputable def I_z32z [Fuel] : C_z32z := ⟨NN, @kit_IsKey _, @z40z _, @kit_IsTime _, @z64z _⟩
noncomputable def z32z [Fuel] : T_z32z := @z32z_ I_z32z
def SS_z32z (g : T_z32z) : Spec A := fun args => match args with | [.d (.sl 93 a1)] => fun k => g a1 (fun z0 => k (.d (.int .i64 z0)) [.undef]) | _ => fun _ => none
def sh_z32z_L4 : SSt := mkSh 58 1 [(0, .sl 93), (9, .sl 93), (10, .int .i64), (11, .int .i64)] []
def LP_z32z_L4 (g : C_z32z) (n : Nat) : LPT A := fun ps => match ps with | [.d (.sl 93 p1), .d (.sl 93 p2), .d (.int .i64 p3), .d (.int .i64 p4)] => fun K => z32z_L4 g n p1 p2 p3 p4 (fun z0 => K .ret (mkSt 58 1 [(2, .d (.int .i64 z0))] [])) (K (.exit 0) (mkSt 58 1 [] [])) | _ => fun _ => none
noncomputable def code_48 : Code := (Tryz.f48.body).getD .skip
noncomputable def E_z32z (g : C_z32z) : Env A := mkE [(49, SS_kit_IsKey g.kit_IsKey), (106, SS_z40z g.z40z), (107, SS_kit_IsTime g.kit_IsTime), (108, SS_z64z g.z64z)] [(4, [0])] [(4, ⟨[0, 9, 10, 11], [], [], [], [], []⟩)] [(4, ⟨[2], [], [], [], [], []⟩)] [(4, pieceOf sh_z32z_L4 (LP_z32z_L4 g g.N))] [] [] [] [] []
theorem ct_z32z [Fuel] : NatTab (E_z32z I_z32z).C := ct_of (P := Tryz.prog) (T := T) (.cons ok_kit_IsKey (.cons ok_z40z (.cons ok_kit_IsTime (.cons ok_z64z .nil)))) (by kernel_rfl)
noncomputable def cb_z32z_L4 : Code := sub [1, 1, 0, 1, 0, 0] code_48
theorem s_z32z_L4 (g : C_z32z) (n : Nat) : StepOk (E_z32z g) g.N cb_z32z_L4 sh_z32z_L4 (LP_z32z_L4 g) n := by intro ps; unfold LP_z32z_L4; split; exact .inr fun R K => (by kernel_rfl); exact .inl fun R K => rfl
theorem lf_z32z_L4 [Fuel] : LoopFine (E_z32z I_z32z) NN cb_z32z_L4 := fine_loop sh_z32z_L4 (LP_z32z_L4 I_z32z) (by kernel_rfl) ct_z32z (cuts0 (fun _ => rfl) (by kernel_rfl)) (fun ps R K => by unfold LP_z32z_L4; split <;> (try unfold z32z_L4) <;> rfl) (s_z32z_L4 I_z32z)
theorem sm_z32z (g : C_z32z) : Same (SS_z32z (@z32z_ g)) (abody (E_z32z g) Tryz.f48 code_48 1 [] [.asis] g.N) := by intro args; unfold SS_z32z; split; exact .inr fun R k => (by kernel_rfl); exact .inl fun R k => rfl
theorem ok_z32z [Fuel] : Ok 48 (SS_z32z (@z32z _)) := okF_of std (.cons ok_kit_IsKey (.cons ok_z40z (.cons ok_kit_IsTime (.cons ok_z64z .nil)))) ⟨rfl, rfl, by kernel_rfl, rfl, rfl, rfl⟩ (sm_z32z I_z32z) (cutsL (fun _ => rfl) (.cons lf_z32z_L4 .nil) (by kernel_rfl)) Tryz.func48 (by kernel_rfl) (by kernel_rfl)
abbrev T_band_used : Type 1 := Int → Int → {R : Type} → (G_Row → Option R) → Option R
def band_used_ (g : Nat) (a1 a2 : Int) {R : Type} (k0 : G_Row → Option R) : Option R :=
 k0 (⟨(w64 (a1 - (w64 (Int.tdiv a2 2)))), (w64 ((w64 (a1 - (w64 (Int.tdiv a2 2)))) + a2))⟩ : G_Row)
noncomputable def band_used [Fuel] : T_band_used := @band_used_ NN
def SS_band_used (g : T_band_used) : Spec A := fun args => match args with | [.d (.int .i64 a1), .d (.int .i64 a2)] => fun k => g a1 a2 (fun z0 => k (.agg [.d (.int .i64 z0.f_From), .d (.int .i64 z0.f_To)]) [.undef, .undef]) | _ => fun _ => none
noncomputable def code_61 : Code := (Tryz.f61.body).getD .skip
noncomputable def E_band_used (g : Nat) : Env A := mkE [] [(4, [0])] [] [] [] [] [] [] [] []
theorem sm_band_used (g : Nat) : Same (SS_band_used (@band_used_ g)) (abody (E_band_used g) Tryz.f61 code_61 1 [] [.asis] g) := by intro args; unfold SS_band_used; split; exact .inr fun R k => (by kernel_rfl); exact .inl fun R k => rfl
theorem ok_band_used [Fuel] : Ok 61 (SS_band_used (@band_used _)) := okF_of std .nil ⟨rfl, rfl, by kernel_rfl, rfl, rfl, rfl⟩ (sm_band_used NN) (cuts0 (fun _ => rfl) (by kernel_rfl)) Tryz.func61 (by kernel_rfl) (by kernel_rfl)
abbrev T_kit_Has : Type 1 := G_Window → Int → {R : Type} → (Bool → Option R) → Option R
def kit_Has_ (g : Nat) (a1 : G_Window) (a2 : Int) {R : Type} (k0 : Bool → Option R) : Option R :=
 (bif (decide (a1.f_From ≤ a2)) then k0 (decide (a2 < a1.f_To)) else k0 false)
noncomputable def kit_Has [Fuel] : T_kit_Has := @kit_Has_ NN
def SS_kit_Has (g : T_kit_Has) : Spec A := fun args => match args with | [.agg [.d (.int .i64 a1), .d (.int .i64 a2)], .d (.int .i64 a3)] => fun k => g ⟨a1, a2⟩ a3 (fun z0 => k (.d (.bool z0)) [.undef, .undef]) | _ => fun _ => none
noncomputable def code_112 : Code := (Tryz.f112.body).getD .skip
noncomputable def E_kit_Has (g : Nat) : Env A := mkE [] [(2, [0])] [] [] [] [] [] [] [] []
theorem sm_kit_Has (g : Nat) : Same (SS_kit_Has (@kit_Has_ g)) (abody (E_kit_Has g) Tryz.f112 code_112 1 [] [.asis] g) := by intro args; unfold SS_kit_Has; split; exact .inr fun R k => (by kernel_rfl); exact .inl fun R k => rfl
theorem ok_kit_Has [Fuel] : Ok 112 (SS_kit_Has (@kit_Has _)) := okF_of std .nil ⟨rfl, rfl, by kernel_rfl, rfl, rfl, rfl⟩ (sm_kit_Has NN) (cuts0 (fun _ => rfl) (by kernel_rfl)) Tryz.func112 (by kernel_rfl) (by kernel_rfl)
abbrev T_z54z : Type 1 := G_Row → G_Row → {R : Type} → (Int → Option R) → Option R
def z54z_ (g : Nat) (a1 a2 : G_Row) {R : Type} (k0 : Int → Option R) : Option R :=
 k0 (w64 (a1.f_From - a2.f_From))
noncomputable def z54z [Fuel] : T_z54z := @z54z_ NN
def SS_z54z (g : T_z54z) : Spec A := fun args => match args with | [.agg [.d (.int .i64 a1), .d (.int .i64 a2)], .agg [.d (.int .i64 a3), .d (.int .i64 a4)]] => fun k => g ⟨a1, a2⟩ ⟨a3, a4⟩ (fun z0 => k (.d (.int .i64 z0)) [.undef, .undef]) | _ => fun _ => none
noncomputable def code_162 : Code := (Tryz.f162.body).getD .skip
noncomputable def E_z54z (g : Nat) : Env A := mkE [] [(2, [0]), (3, [1])] [] [] [] [] [] [] [] []
theorem sm_z54z (g : Nat) : Same (SS_z54z (@z54z_ g)) (abody (E_z54z g) Tryz.f162 code_162 2 [] [.asis] g) := by intro args; unfold SS_z54z; split; exact .inr fun R k => (by kernel_rfl); exact .inl fun R k => rfl
theorem ok_z54z [Fuel] : Ok 162 (SS_z54z (@z54z _)) := okF_of std .nil ⟨rfl, rfl, by kernel_rfl, rfl, rfl, rfl⟩ (sm_z54z NN) (cuts0 (fun _ => rfl) (by kernel_rfl)) Tryz.func162 (by kernel_rfl) (by kernel_rfl)
noncomputable def Ed_z54z (g : Nat) : Env A := mkED [] [(2, [0]), (3, [1])] [] [] [] [] [] [] [] []
theorem smd_z54z (g : Nat) : Same (SS_z54z (@z54z_ g)) (abody (Ed_z54z g) Tryz.f162 code_162 2 [] [.asis] g) := by intro args; unfold SS_z54z; split; exact .inr fun R k => (by kernel_rfl); exact .inl fun R k => rfl
theorem okd_z54z [Fuel] : OkD 162 (SS_z54z (@z54z _)) := okF_of stdD .nil ⟨rfl, rfl, by kernel_rfl, rfl, rfl, rfl⟩ (smd_z54z NN) (cuts0 (fun _ => rfl) (by kernel_rfl)) Tryz.func162 (by kernel_rfl) (by kernel_rfl)
abbrev T_z47z : Type 1 := List G_Row → {R : Type} → (List G_Row → Option R) → Option R
noncomputable def z47z [Fuel] : T_z47z := @X_sortf G_Row (@z54z _)
def SS_z47z (g : T_z47z) : Spec A := fun args => match args with | [.arr 36 a1, .fn 162 []] => fun k => g a1 (fun z => k (.tup []) [.arr 36 z, .fn 162 []]) | _ => fun _ => none
theorem h1_z47z [Fuel] (xs : List (A 36)) (R : Type) (k : IV A → List (IV A) → Option R) : SS_z47z (@z47z _) [.arr 36 xs, .fn 162 []] k = X_sortf (α := A 36) (@z54z _) xs (fun z => k (.tup []) [.arr 36 z, .fn 162 []]) := by kernel_rfl
theorem h2_z47z [Fuel] (args : List (IV A)) (R : Type) (k : IV A → List (IV A) → Option R) (h : ∀ xs : List (A 36), args ≠ [.arr 36 xs, .fn 162 []]) : SS_z47z (@z47z _) args k = none := by unfold SS_z47z; split; exact absurd rfl (h _); rfl
theorem hc_z47z [Fuel] (x y : A 36) (R : Type) (k : Int → Option R) : callOf T (SS_z54z (@z54z _)) 36 x y k = @z54z _ x y R k := by kernel_rfl
theorem hs_z47z (x : G_Row) : (enc_e36 x).all scal = true := rfl
theorem ok_z47z [Fuel] : Ok 161 (SS_z47z (@z47z _)) := ⟨sortf_sound (tyOk Tryz.prog) (e := 36) Tryz.sortf161 Tryz.isAgg36 Tryz.sizeOf36 (fun x d hd => List.all_eq_true.1 (hs_z47z x) d hd) hc_z47z okd_z54z.fs okd_z54z.en h1_z47z h2_z47z, sortf_na (e := 36) h1_z47z h2_z47z, enters_of (fn := Tryz.f161) Tryz.func161 (by kernel_rfl) (by kernel_rfl)⟩
abbrev T_z22z : Type 1 := List G_Row → {R : Type} → (List G_Row → Option R) → Option R
structure C_z22z where
 N : Nat
 z47z : T_z47z
def z22z_L4 (g : C_z22z) : Nat → Int → Int → List G_Row → List G_Row → {R : Type} → (List G_Row → Option R) → Option R
 | 0, _, _, _, _, _, _ => none
 | n + 1, v3, v4, v5, v6, _, e0 => (bif (decide (v4 < v3)) then (inr v5 v4 (at_ v5 v4 fun x11 => (bif (decide ((w64 ((v6.length : Int) - 1)) ≥ 0)) then (inr v6 (w64 ((v6.length : Int) - 1)) (at_ v6 (w64 ((v6.length : Int) - 1)) fun x12 => (bif (decide (x11.f_From ≤ x12.f_To)) then (inr v6 (w64 ((v6.length : Int) - 1)) (at_ v6 (w64 ((v6.length : Int) - 1)) fun x13 => (inr v6 (w64 ((v6.length : Int) - 1)) (at_ v6 (w64 ((v6.length : Int) - 1)) fun x14 => z22z_L4 g n v3 (w64 (v4 + 1)) v5 (set_ v6 (w64 ((v6.length : Int) - 1)) (⟨x14.f_From, (if x11.f_To > x13.f_To then x11.f_To else x13.f_To)⟩ : G_Row)) e0)))) else (bif (decide ((v6.length + [x11].length) * 16 ≤ roomBytes')) then z22z_L4 g n v3 (w64 (v4 + 1)) v5 (v6 ++ [x11]) e0 else none)))) else (bif (decide ((v6.length + [x11].length) * 16 ≤ roomBytes')) then z22z_L4 g n v3 (w64 (v4 + 1)) v5 (v6 ++ [x11]) e0 else none)))) else e0 v6)
def z22z_ (g : C_z22z) (a1 : List G_Row) {R : Type} (k0 : List G_Row → Option R) : Option R :=
 (g.z47z a1 (fun r2 => (z22z_L4 g g.N (r2.length : Int) 0 r2 [] (fun e15 => k0 e15))))
noncomputable def I_z22z [Fuel] : C_z22z := ⟨NN, @z47z _⟩
noncomputable def z22z [Fuel] : T_z22z := @z22z_ I_z22z
def SS_z22z (g : T_z22z) : Spec A := fun args => match args with | [.arr 36 a1] => fun k => g a1 (fun z0 => k (.arr 36 z0) [.undef]) | _ => fun _ => none
def sh_z22z_L4 : SSt := mkSh 48 5 [(3, .own 36 1), (9, .own 36 0), (10, .int .i64), (11, .int .i64)] [(0, .row 36), (1, .row 36)]
def LP_z22z_L4 (g : C_z22z) (n : Nat) : LPT A := fun ps => match ps with | [.d (.int .i64 p1), .d (.int .i64 p2), .d (.sl 36 p3), .d (.sl 36 p4)] => fun K => z22z_L4 g n p1 p2 p3 p4 (fun z0 => K (.exit 0) (mkSt 48 5 [(3, .own 36 1)] [(1, some (.row 36 z0))])) | _ => fun _ => none
noncomputable def code_113 : Code := (Tryz.f113.body).getD .skip
noncomputable def E_z22z (g : C_z22z) : Env A := mkE [(161, SS_z47z g.z47z)] [(5, [2]), (44, [3]), (45, [4])] [(4, ⟨[3, 9, 10, 11], [(3, 36, 1)], [0], [], [], []⟩)] [(4, ⟨[3], [], [1], [], [], []⟩)] [(4, pieceOf sh_z22z_L4 (LP_z22z_L4 g g.N))] [] [] [] [(161, 0)] []
theorem ct_z22z [Fuel] : NatTab (E_z22z I_z22z).C := ct_of (P := Tryz.prog) (T := T) (.cons ok_z47z .nil) (by kernel_rfl)
noncomputable def cb_z22z_L4 : Code := sub [1, 1, 1, 0, 1, 0, 0] code_113
theorem s_z22z_L4 (g : C_z22z) (n : Nat) : StepOk (E_z22z g) g.N cb_z22z_L4 sh_z22z_L4 (LP_z22z_L4 g) n := by intro ps; unfold LP_z22z_L4; split; exact .inr fun R K => (by kernel_rfl); exact .inl fun R K => rfl
theorem lf_z22z_L4 [Fuel] : LoopFine (E_z22z I_z22z) NN cb_z22z_L4 := fine_loop sh_z22z_L4 (LP_z22z_L4 I_z22z) (by kernel_rfl) ct_z22z (cuts0 (fun _ => rfl) (by kernel_rfl)) (fun ps R K => by unfold LP_z22z_L4; split <;> (try unfold z22z_L4) <;> rfl) (s_z22z_L4 I_z22z)
theorem sm_z22z (g : C_z22z) : Same (SS_z22z (@z22z_ g)) (abody (E_z22z g) Tryz.f113 code_113 5 [0] [.arr 36] g.N) := by intro args; unfold SS_z22z; split; exact .inr fun R k => (by kernel_rfl); exact .inl fun R k => rfl
theorem ok_z22z [Fuel] : Ok 113 (SS_z22z (@z22z _)) := okF_of std (.cons ok_z47z .nil) ⟨rfl, rfl, by kernel_rfl, rfl, rfl, rfl⟩ (sm_z22z I_z22z) (cutsL (fun _ => rfl) (.cons lf_z22z_L4 .nil) (by kernel_rfl)) Tryz.func113 (by kernel_rfl) (by kernel_rfl)
abbrev T_z41z : Type 1 := List G_Segment → List UInt8 → Int → Int → {R : Type} → (List G_Row → Option R) → Option R
structure C_z41z where
 N : Nat
 z53z : T_z53z
 kit_Has : T_kit_Has
 z22z : T_z22z
def z41z_L3 (g : C_z41z) : Nat → List UInt8 → Int → Int → List G_Segment → Int → Int → List G_Row → {R : Type} → (List G_Row → Option R) → Option R
 | 0, _, _, _, _, _, _, _, _, _ => none
 | n + 1, v5, v6, v7, v8, v9, v10, v11, _, e0 => (bif (decide (v10 < v9)) then (get_ v8 v10 fun x16 => (bif (x16.f_Class == v5) then (bif (v6 == 0) then (g.kit_Has x16.f_Time v7 (fun r17 => (bif r17 then (bif (decide ((v11.length + [(⟨x16.f_Low, x16.f_High⟩ : G_Row)].length) * 16 ≤ roomBytes')) then z41z_L3 g n v5 v6 v7 v8 v9 (w64 (v10 + 1)) (v11 ++ [(⟨x16.f_Low, x16.f_High⟩ : G_Row)]) e0 else none) else z41z_L3 g n v5 v6 v7 v8 v9 (w64 (v10 + 1)) v11 e0))) else (g.z53z x16.f_Modes v6 (fun r18 => (bif r18 then (g.kit_Has x16.f_Time v7 (fun r19 => (bif r19 then (bif (decide ((v11.length + [(⟨x16.f_Low, x16.f_High⟩ : G_Row)].length) * 16 ≤ roomBytes')) then z41z_L3 g n v5 v6 v7 v8 v9 (w64 (v10 + 1)) (v11 ++ [(⟨x16.f_Low, x16.f_High⟩ : G_Row)]) e0 else none) else z41z_L3 g n v5 v6 v7 v8 v9 (w64 (v10 + 1)) v11 e0))) else z41z_L3 g n v5 v6 v7 v8 v9 (w64 (v10 + 1)) v11 e0)))) else z41z_L3 g n v5 v6 v7 v8 v9 (w64 (v10 + 1)) v11 e0)) else e0 v11)
def z41z_ (g : C_z41z) (a1 : List G_Segment) (a2 : List UInt8) (a3 a4 : Int) {R : Type} (k0 : List G_Row → Option R) : Option R :=
 (z41z_L3 g g.N a2 a3 a4 a1 (a1.length : Int) 0 [] (fun e20 => (g.z22z e20 (fun r21 => k0 r21))))
noncomputable def I_z41z [Fuel] : C_z41z := ⟨NN, @z53z _, @kit_Has _, @z22z _⟩
noncomputable def z41z [Fuel] : T_z41z := @z41z_ I_z41z
def SS_z41z (g : T_z41z) : Spec A := fun args => match args with | [.d (.sl 93 a1), .d (.str a2), .d (.int .i64 a3), .d (.int .i64 a4)] => fun k => g a1 a2 a3 a4 (fun z0 => k (.arr 36 z0) [.undef, .undef, .undef, .undef]) | _ => fun _ => none
def sh_z41z_L3 : SSt := mkSh 49 5 [(1, .str), (2, .int .i64), (3, .int .i64), (9, .own 36 0), (12, .sl 93), (13, .int .i64), (14, .int .i64)] [(0, .row 36)]
def LP_z41z_L3 (g : C_z41z) (n : Nat) : LPT A := fun ps => match ps with | [.d (.str p1), .d (.int .i64 p2), .d (.int .i64 p3), .d (.sl 93 p4), .d (.int .i64 p5), .d (.int .i64 p6), .d (.sl 36 p7)] => fun K => z41z_L3 g n p1 p2 p3 p4 p5 p6 p7 (fun z0 => K (.exit 0) (mkSt 49 5 [(9, .own 36 0)] [(0, some (.row 36 z0))])) | _ => fun _ => none
noncomputable def code_52 : Code := (Tryz.f52.body).getD .skip
noncomputable def E_z41z (g : C_z41z) : Env A := mkE [(111, SS_z53z g.z53z), (112, SS_kit_Has g.kit_Has), (113, SS_z22z g.z22z)] [(11, [1]), (44, [2]), (45, [3]), (48, [4])] [(3, ⟨[1, 2, 3, 9, 12, 13, 14], [(9, 36, 0)], [], [], [], []⟩)] [(3, ⟨[9], [], [0], [], [], []⟩)] [(3, pieceOf sh_z41z_L3 (LP_z41z_L3 g g.N))] [] [] [] [(113, 0)] []
theorem ct_z41z [Fuel] : NatTab (E_z41z I_z41z).C := ct_of (P := Tryz.prog) (T := T) (.cons ok_z53z (.cons ok_kit_Has (.cons ok_z22z .nil))) (by kernel_rfl)
noncomputable def cb_z41z_L3 : Code := sub [1, 1, 0, 1, 0, 0] code_52
theorem s_z41z_L3 (g : C_z41z) (n : Nat) : StepOk (E_z41z g) g.N cb_z41z_L3 sh_z41z_L3 (LP_z41z_L3 g) n := by intro ps; unfold LP_z41z_L3; split; exact .inr fun R K => (by kernel_rfl); exact .inl fun R K => rfl
theorem lf_z41z_L3 [Fuel] : LoopFine (E_z41z I_z41z) NN cb_z41z_L3 := fine_loop sh_z41z_L3 (LP_z41z_L3 I_z41z) (by kernel_rfl) ct_z41z (cuts0 (fun _ => rfl) (by kernel_rfl)) (fun ps R K => by unfold LP_z41z_L3; split <;> (try unfold z41z_L3) <;> rfl) (s_z41z_L3 I_z41z)
theorem sm_z41z (g : C_z41z) : Same (SS_z41z (@z41z_ g)) (abody (E_z41z g) Tryz.f52 code_52 5 [] [.arr 36] g.N) := by intro args; unfold SS_z41z; split; exact .inr fun R k => (by kernel_rfl); exact .inl fun R k => rfl
theorem ok_z41z [Fuel] : Ok 52 (SS_z41z (@z41z _)) := okF_of std (.cons ok_z53z (.cons ok_kit_Has (.cons ok_z22z .nil))) ⟨rfl, rfl, by kernel_rfl, rfl, rfl, rfl⟩ (sm_z41z I_z41z) (cutsL (fun _ => rfl) (.cons lf_z41z_L3 .nil) (by kernel_rfl)) Tryz.func52 (by kernel_rfl) (by kernel_rfl)
abbrev T_band_May_1 : Type 1 := G_Row → G_Row → {R : Type} → (Bool → G_Row → Option R) → Option R
def band_May_1_ (g : Nat) (a1 a2 : G_Row) {R : Type} (k0 : Bool → G_Row → Option R) : Option R :=
 (bif (decide (a1.f_From ≤ a2.f_From)) then k0 (decide (a2.f_To ≤ a1.f_To)) a2 else k0 false a2)
noncomputable def band_May_1 [Fuel] : T_band_May_1 := @band_May_1_ NN
def SS_band_May_1 (g : T_band_May_1) : Spec A := fun args => match args with | [.agg [.d (.int .i64 a1), .d (.int .i64 a2)], .box [.d (.int .i64 a3), .d (.int .i64 a4)]] => fun k => g ⟨a1, a2⟩ ⟨a3, a4⟩ (fun z0 z1 => k (.d (.bool z0)) [.undef, .box [.d (.int .i64 z1.f_From), .d (.int .i64 z1.f_To)]]) | _ => fun _ => none
noncomputable def code_63 : Code := (Tryz.f63.body).getD .skip
noncomputable def E_band_May_1 (g : Nat) : Env A := mkE [] [(2, [1])] [] [] [] [] [] [] [] [1]
theorem sm_band_May_1 (g : Nat) : Same (SS_band_May_1 (@band_May_1_ g)) (abody (E_band_May_1 g) Tryz.f63 code_63 2 [0] [.asis] g) := by intro args; unfold SS_band_May_1; split; exact .inr fun R k => (by kernel_rfl); exact .inl fun R k => rfl
theorem ok_band_May_1 [Fuel] : Ok 63 (SS_band_May_1 (@band_May_1 _)) := okF_of std .nil ⟨rfl, rfl, by kernel_rfl, rfl, rfl, rfl⟩ (sm_band_May_1 NN) (cuts0 (fun _ => rfl) (by kernel_rfl)) Tryz.func63 (by kernel_rfl) (by kernel_rfl)
abbrev T_z11z : Type 1 := List G_Row → G_Row → {R : Type} → (Int → G_Row → Option R) → Option R
structure C_z11z where
 N : Nat
 band_May_1 : T_band_May_1
def z11z_L2 (g : C_z11z) : Nat → List G_Row → Int → Int → G_Row → {R : Type} → (Int → G_Row → Option R) → (G_Row → Option R) → Option R
 | 0, _, _, _, _, _, _, _ => none
 | n + 1, v3, v4, v5, v6, _, e0, e1 => (bif (decide (v5 < v4)) then (get_ v3 v5 fun x10 => (g.band_May_1 x10 v6 (fun r11 r12 => (bif r11 then e0 v5 r12 else z11z_L2 g n v3 v4 (w64 (v5 + 1)) r12 e0 e1)))) else e1 v6)
def z11z_ (g : C_z11z) (a1 : List G_Row) (a2 : G_Row) {R : Type} (k0 : Int → G_Row → Option R) : Option R :=
 (z11z_L2 g g.N a1 (a1.length : Int) 0 a2 (fun e13 e14 => k0 e13 e14) (fun e15 => k0 (-1) e15))
noncomputable def I_z11z [Fuel] : C_z11z := ⟨NN, @band_May_1 _⟩
noncomputable def z11z [Fuel] : T_z11z := @z11z_ I_z11z
def SS_z11z (g : T_z11z) : Spec A := fun args => match args with | [.d (.sl 36 a1), .fn 63 [.box [.d (.int .i64 a2), .d (.int .i64 a3)]]] => fun k => g a1 ⟨a2, a3⟩ (fun z0 z1 => k (.d (.int .i64 z0)) [.undef, .fn 63 [.box [.d (.int .i64 z1.f_From), .d (.int .i64 z1.f_To)]]]) | _ => fun _ => none
def sh_z11z_L2 : SSt := mkSh 19 1 [(0, .sl 36), (1, .fn 63 [.ptr 0 0]), (7, .int .i64), (8, .int .i64)] [(0, .box [.int .i64, .int .i64])]
def LP_z11z_L2 (g : C_z11z) (n : Nat) : LPT A := fun ps => match ps with | [.d (.sl 36 p1), .d (.int .i64 p2), .d (.int .i64 p3), .d (.int .i64 p4), .d (.int .i64 p5)] => fun K => z11z_L2 g n p1 p2 p3 ⟨p4, p5⟩ (fun z0 z1 => K .ret (mkSt 19 1 [(1, .fn 63 [.ptr 0 0]), (4, .d (.int .i64 z0))] [(0, some (.box [.d (.int .i64 z1.f_From), .d (.int .i64 z1.f_To)]))])) (fun z0 => K (.exit 0) (mkSt 19 1 [(1, .fn 63 [.ptr 0 0])] [(0, some (.box [.d (.int .i64 z0.f_From), .d (.int .i64 z0.f_To)]))])) | _ => fun _ => none
noncomputable def code_122 : Code := (Tryz.f122.body).getD .skip
noncomputable def E_z11z (g : C_z11z) : Env A := mkE [(63, SS_band_May_1 g.band_May_1)] [] [(2, ⟨[0, 1, 7, 8], [], [0], [], [], []⟩)] [(2, ⟨[1, 4], [], [0], [], [], []⟩)] [(2, pieceOf sh_z11z_L2 (LP_z11z_L2 g g.N))] [] [] [] [] [1]
theorem ct_z11z [Fuel] : NatTab (E_z11z I_z11z).C := ct_of (P := Tryz.prog) (T := T) (.cons ok_band_May_1 .nil) (by kernel_rfl)
noncomputable def cb_z11z_L2 : Code := sub [1, 0, 1, 0, 0] code_122
theorem s_z11z_L2 (g : C_z11z) (n : Nat) : StepOk (E_z11z g) g.N cb_z11z_L2 sh_z11z_L2 (LP_z11z_L2 g) n := by intro ps; unfold LP_z11z_L2; split; exact .inr fun R K => (by kernel_rfl); exact .inl fun R K => rfl
theorem lf_z11z_L2 [Fuel] : LoopFine (E_z11z I_z11z) NN cb_z11z_L2 := fine_loop sh_z11z_L2 (LP_z11z_L2 I_z11z) (by kernel_rfl) ct_z11z (cuts0 (fun _ => rfl) (by kernel_rfl)) (fun ps R K => by unfold LP_z11z_L2; split <;> (try unfold z11z_L2) <;> rfl) (s_z11z_L2 I_z11z)
theorem sm_z11z (g : C_z11z) : Same (SS_z11z (@z11z_ g)) (abody (E_z11z g) Tryz.f122 code_122 1 [0] [.asis] g.N) := by intro args; unfold SS_z11z; split; exact .inr fun R k => (by kernel_rfl); exact .inl fun R k => rfl
theorem ok_z11z [Fuel] : Ok 122 (SS_z11z (@z11z _)) := okF_of std (.cons ok_band_May_1 .nil) ⟨rfl, rfl, by kernel_rfl, rfl, rfl, rfl⟩ (sm_z11z I_z11z) (cutsL (fun _ => rfl) (.cons lf_z11z_L2 .nil) (by kernel_rfl)) Tryz.func122 (by kernel_rfl) (by kernel_rfl)
abbrev T_z42z : Type 1 := List G_Row → G_Row → {R : Type} → (Bool → G_Row → Option R) → Option R
structure C_z42z where
 N : Nat
 z11z : T_z11z
def z42z_ (g : C_z42z) (a1 : List G_Row) (a2 : G_Row) {R : Type} (k0 : Bool → G_Row → Option R) : Option R :=
 (g.z11z a1 a2 (fun r3 r4 => k0 (decide (r3 ≥ 0)) r4))
noncomputable def I_z42z [Fuel] : C_z42z := ⟨NN, @z11z _⟩
noncomputable def z42z [Fuel] : T_z42z := @z42z_ I_z42z
def SS_z42z (g : T_z42z) : Spec A := fun args => match args with | [.d (.sl 36 a1), .fn 63 [.box [.d (.int .i64 a2), .d (.int .i64 a3)]]] => fun k => g a1 ⟨a2, a3⟩ (fun z0 z1 => k (.d (.bool z0)) [.undef, .fn 63 [.box [.d (.int .i64 z1.f_From), .d (.int .i64 z1.f_To)]]]) | _ => fun _ => none
noncomputable def code_62 : Code := (Tryz.f62.body).getD .skip
noncomputable def E_z42z (g : C_z42z) : Env A := mkE [(122, SS_z11z g.z11z)] [] [] [] [] [] [] [] [(122, 0)] [1]
theorem sm_z42z (g : C_z42z) : Same (SS_z42z (@z42z_ g)) (abody (E_z42z g) Tryz.f62 code_62 1 [0] [.asis] g.N) := by intro args; unfold SS_z42z; split; exact .inr fun R k => (by kernel_rfl); exact .inl fun R k => rfl
theorem ok_z42z [Fuel] : Ok 62 (SS_z42z (@z42z _)) := okF_of std (.cons ok_z11z .nil) ⟨rfl, rfl, by kernel_rfl, rfl, rfl, rfl⟩ (sm_z42z I_z42z) (cuts0 (fun _ => rfl) (by kernel_rfl)) Tryz.func62 (by kernel_rfl) (by kernel_rfl)
abbrev T_band_May : Type 1 := List G_Segment → List UInt8 → Int → Int → Int → Int → {R : Type} → (Bool → Int → Option R) → Option R
structure C_band_May where
 N : Nat
 z32z : T_z32z
 kit_IsKey : T_kit_IsKey
 kit_IsMode : T_kit_IsMode
 z65z : T_z65z
 z41z : T_z41z
 z52z : T_z52z
 band_used : T_band_used
 z42z : T_z42z
def band_May_ (g : C_band_May) (a1 : List G_Segment) (a2 : List UInt8) (a3 a4 a5 a6 : Int) {R : Type} (k0 : Bool → Int → Option R) : Option R :=
 (g.z32z a1 (fun r7 => (bif (r7 != 0) then k0 false r7 else (g.kit_IsKey a2 (fun r8 => (bif (!r8) then k0 false 5 else (g.z52z a3 0 30000000000 (fun r9 => (bif r9 then k0 false 1 else (g.z52z a4 1 100000 (fun r10 => (bif r10 then k0 false 1 else (g.kit_IsMode a5 (fun r11 => (bif (!r11) then k0 false 4 else (g.z65z a6 (fun r12 => (bif (!r12) then k0 false 1 else (g.band_used a3 a4 (fun r13 => (g.z41z a1 a2 a5 a6 (fun r14 => (g.z42z r14 r13 (fun r15 r16 => k0 r15 0))))))))))))))))))))))))
noncomputable def I_band_May [Fuel] : C_band_May := ⟨NN, @z32z _, @kit_IsKey _, @kit_IsMode _, @z65z _, @z41z _, @z52z _, @band_used _, @z42z _⟩
noncomputable def band_May [Fuel] : T_band_May := @band_May_ I_band_May
def SS_band_May (g : T_band_May) : Spec A := fun args => match args with | [.d (.sl 93 a1), .d (.str a2), .d (.int .i64 a3), .d (.int .i64 a4), .d (.int .i64 a5), .d (.int .i64 a6)] => fun k => g a1 a2 a3 a4 a5 a6 (fun z0 z1 => k (.tup [.d (.bool z0), .d (.int .i64 z1)]) [.undef, .undef, .undef, .undef, .undef, .undef]) | _ => fun _ => none
noncomputable def code_12 : Code := (Tryz.f12.body).getD .skip
noncomputable def E_band_May (g : C_band_May) : Env A := mkE [(48, SS_z32z g.z32z), (49, SS_kit_IsKey g.kit_IsKey), (50, SS_kit_IsMode g.kit_IsMode), (51, SS_z65z g.z65z), (52, SS_z41z g.z41z), (60, SS_z52z g.z52z), (61, SS_band_used g.band_used), (62, SS_z42z g.z42z)] [(15, [0]), (47, [1])] [] [] [] [] [] [] [] []
theorem sm_band_May (g : C_band_May) : Same (SS_band_May (@band_May_ g)) (abody (E_band_May g) Tryz.f12 code_12 2 [] [.asis, .asis] g.N) := by intro args; unfold SS_band_May; split; exact .inr fun R k => (by kernel_rfl); exact .inl fun R k => rfl
theorem ok_band_May [Fuel] : Ok 12 (SS_band_May (@band_May _)) := okF_of std (.cons ok_z32z (.cons ok_kit_IsKey (.cons ok_kit_IsMode (.cons ok_z65z (.cons ok_z41z (.cons ok_z52z (.cons ok_band_used (.cons ok_z42z .nil)))))))) ⟨rfl, rfl, by kernel_rfl, rfl, rfl, rfl⟩ (sm_band_May I_band_May) (cuts0 (fun _ => rfl) (by kernel_rfl)) Tryz.func12 (by kernel_rfl) (by kernel_rfl)
abbrev T_z56z : Type 1 := List UInt8 → {R : Type} → (Bool → Option R) → Option R
def z56z_L4 (g : Nat) : Nat → List UInt8 → Int → Int → {R : Type} → (Bool → Option R) → Option R → Option R
 | 0, _, _, _, _, _, _ => none
 | n + 1, v2, v3, v4, _, e0, e1 => (bif (decide (v4 < v3)) then (bif ((w64 (Int.tdiv v4 2)) == 1) then (get_ v2 v4 fun x11 => (bif (decide ((x11.toNat : Int) < 48)) then e0 false else (get_ v2 v4 fun x12 => (bif (decide ((x12.toNat : Int) > 57)) then e0 false else z56z_L4 g n v2 v3 (w64 (v4 + 1)) e0 e1)))) else (bif ((w64 (Int.tdiv v4 2)) == 2) then (get_ v2 v4 fun x13 => (bif (decide ((x13.toNat : Int) < 97)) then e0 false else (get_ v2 v4 fun x14 => (bif (decide ((x14.toNat : Int) > 120)) then e0 false else z56z_L4 g n v2 v3 (w64 (v4 + 1)) e0 e1)))) else (get_ v2 v4 fun x15 => (bif (decide ((x15.toNat : Int) < 97)) then e0 false else (get_ v2 v4 fun x16 => (bif (decide ((x16.toNat : Int) > 114)) then e0 false else z56z_L4 g n v2 v3 (w64 (v4 + 1)) e0 e1)))))) else e1)
def z56z_ (g : Nat) (a1 : List UInt8) {R : Type} (k0 : Bool → Option R) : Option R :=
 (bif ((a1.length : Int) != 2) then (bif ((a1.length : Int) != 4) then (bif ((a1.length : Int) != 6) then k0 false else (z56z_L4 g g a1 (a1.length : Int) 0 (fun e17 => k0 e17) (k0 true))) else (z56z_L4 g g a1 (a1.length : Int) 0 (fun e18 => k0 e18) (k0 true))) else (z56z_L4 g g a1 (a1.length : Int) 0 (fun e19 => k0 e19) (k0 true)))
noncomputable def z56z [Fuel] : T_z56z := @z56z_ NN
def SS_z56z (g : T_z56z) : Spec A := fun args => match args with | [.d (.str a1)] => fun k => g a1 (fun z0 => k (.d (.bool z0)) [.undef]) | _ => fun _ => none
def sh_z56z_L4 : SSt := mkSh 43 0 [(0, .str), (20, .int .i64), (21, .int .i64)] []
def LP_z56z_L4 (g : Nat) (n : Nat) : LPT A := fun ps => match ps with | [.d (.str p1), .d (.int .i64 p2), .d (.int .i64 p3)] => fun K => z56z_L4 g n p1 p2 p3 (fun z0 => K .ret (mkSt 43 0 [(2, .d (.bool z0))] [])) (K (.exit 0) (mkSt 43 0 [] [])) | _ => fun _ => none
noncomputable def code_216 : Code := (Tryz.f216.body).getD .skip
noncomputable def E_z56z (g : Nat) : Env A := mkE [] [] [(4, ⟨[0, 20, 21], [], [], [], [], []⟩)] [(4, ⟨[2], [], [], [], [], []⟩)] [(4, pieceOf sh_z56z_L4 (LP_z56z_L4 g g))] [] [] [] [] []
theorem ct_z56z [Fuel] : NatTab (E_z56z NN).C := ct_of (P := Tryz.prog) (T := T) .nil (by kernel_rfl)
noncomputable def cb_z56z_L4 : Code := sub [1, 1, 0, 1, 0, 0] code_216
theorem s_z56z_L4 (g : Nat) (n : Nat) : StepOk (E_z56z g) g cb_z56z_L4 sh_z56z_L4 (LP_z56z_L4 g) n := by intro ps; unfold LP_z56z_L4; split; exact .inr fun R K => (by kernel_rfl); exact .inl fun R K => rfl
theorem lf_z56z_L4 [Fuel] : LoopFine (E_z56z NN) NN cb_z56z_L4 := fine_loop sh_z56z_L4 (LP_z56z_L4 NN) (by kernel_rfl) ct_z56z (cuts0 (fun _ => rfl) (by kernel_rfl)) (fun ps R K => by unfold LP_z56z_L4; split <;> (try unfold z56z_L4) <;> rfl) (s_z56z_L4 NN)
theorem sm_z56z (g : Nat) : Same (SS_z56z (@z56z_ g)) (abody (E_z56z g) Tryz.f216 code_216 0 [] [.asis] g) := by intro args; unfold SS_z56z; split; exact .inr fun R k => (by kernel_rfl); exact .inl fun R k => rfl
theorem ok_z56z [Fuel] : Ok 216 (SS_z56z (@z56z _)) := okF_of std .nil ⟨rfl, rfl, by kernel_rfl, rfl, rfl, rfl⟩ (sm_z56z NN) (cutsL (fun _ => rfl) (.cons lf_z56z_L4 .nil) (by kernel_rfl)) Tryz.func216 (by kernel_rfl) (by kernel_rfl)
abbrev T_z68z : Type 1 := List UInt8 → {R : Type} → (Bool → Option R) → Option R
structure C_z68z where
 N : Nat
 z56z : T_z56z
def z68z_ (g : C_z68z) (a1 : List UInt8) {R : Type} (k0 : Bool → Option R) : Option R :=
 (bif ((a1.length : Int) == 6) then (g.z56z a1 (fun r2 => k0 r2)) else k0 false)
noncomputable def I_z68z [Fuel] : C_z68z := ⟨NN, @z56z _⟩
noncomputable def z68z [Fuel] : T_z68z := @z68z_ I_z68z
def SS_z68z (g : T_z68z) : Spec A := fun args => match args with | [.d (.str a1)] => fun k => g a1 (fun z0 => k (.d (.bool z0)) [.undef]) | _ => fun _ => none
noncomputable def code_166 : Code := (Tryz.f166.body).getD .skip
noncomputable def E_z68z (g : C_z68z) : Env A := mkE [(216, SS_z56z g.z56z)] [] [] [] [] [] [] [] [] []
theorem sm_z68z (g : C_z68z) : Same (SS_z68z (@z68z_ g)) (abody (E_z68z g) Tryz.f166 code_166 0 [] [.asis] g.N) := by intro args; unfold SS_z68z; split; exact .inr fun R k => (by kernel_rfl); exact .inl fun R k => rfl
theorem ok_z68z [Fuel] : Ok 166 (SS_z68z (@z68z _)) := okF_of std (.cons ok_z56z .nil) ⟨rfl, rfl, by kernel_rfl, rfl, rfl, rfl⟩ (sm_z68z I_z68z) (cuts0 (fun _ => rfl) (by kernel_rfl)) Tryz.func166 (by kernel_rfl) (by kernel_rfl)
abbrev T_z38z : Type 1 := List G_Entrant → {R : Type} → (Int → Option R) → Option R
structure C_z38z where
 N : Nat
 kit_IsKey : T_kit_IsKey
 strings_Compare : T_strings_Compare
 z52z : T_z52z
 z34z : T_z34z
 call_Is : T_call_Is
 z68z : T_z68z
def z38z_L4 (g : C_z38z) : Nat → List G_Entrant → List G_Entrant → Int → Int → {R : Type} → (Int → Option R) → Option R → Option R
 | 0, _, _, _, _, _, _, _ => none
 | n + 1, v2, v3, v4, v5, _, e0, e1 => (bif (decide (v5 < v4)) then (get_ v3 v5 fun x21 => (g.call_Is x21.f_Call (fun r22 => (bif (!r22) then e0 3 else (g.kit_IsKey x21.f_Category (fun r23 => (bif (!r23) then e0 5 else (g.z52z x21.f_Points 0 1000000000000 (fun r24 => (bif r24 then e0 1 else (bif (!(x21.f_Locator == [])) then (g.z68z x21.f_Locator (fun r25 => (bif (!r25) then e0 3 else (bif (decide (v5 > 0)) then (get_ v2 (w64 (v5 - 1)) fun x26 => (get_ v2 (w64 (v5 - 1)) fun x27 => (g.strings_Compare x26.f_Category x21.f_Category (fun r28 => (g.strings_Compare x27.f_Call x21.f_Call (fun r29 => (g.z34z [r28, r29] (fun r30 => (bif (decide (r30 ≥ 0)) then e0 7 else z38z_L4 g n v2 v3 v4 (w64 (v5 + 1)) e0 e1))))))))) else z38z_L4 g n v2 v3 v4 (w64 (v5 + 1)) e0 e1)))) else (bif (decide (v5 > 0)) then (get_ v2 (w64 (v5 - 1)) fun x31 => (get_ v2 (w64 (v5 - 1)) fun x32 => (g.strings_Compare x31.f_Category x21.f_Category (fun r33 => (g.strings_Compare x32.f_Call x21.f_Call (fun r34 => (g.z34z [r33, r34] (fun r35 => (bif (decide (r35 ≥ 0)) then e0 7 else z38z_L4 g n v2 v3 v4 (w64 (v5 + 1)) e0 e1))))))))) else z38z_L4 g n v2 v3 v4 (w64 (v5 + 1)) e0 e1)))))))))))) else e1)
def z38z_ (g : C_z38z) (a1 : List G_Entrant) {R : Type} (k0 : Int → Option R) : Option R :=
 (bif (decide ((a1.length : Int) > 500)) then k0 2 else (z38z_L4 g g.N a1 a1 (a1.length : Int) 0 (fun e36 => k0 e36) (k0 0)))
noncomputable def I_z38z [Fuel] : C_z38z := ⟨NN, @kit_IsKey _, @strings_Compare _, @z52z _, @z34z _, @call_Is _, @z68z _⟩
noncomputable def z38z [Fuel] : T_z38z := @z38z_ I_z38z
def SS_z38z (g : T_z38z) : Spec A := fun args => match args with | [.d (.sl 112 a1)] => fun k => g a1 (fun z0 => k (.d (.int .i64 z0)) [.undef]) | _ => fun _ => none
def sh_z38z_L4 : SSt := mkSh 66 2 [(0, .sl 112), (8, .sl 112), (9, .int .i64), (10, .int .i64)] []
def LP_z38z_L4 (g : C_z38z) (n : Nat) : LPT A := fun ps => match ps with | [.d (.sl 112 p1), .d (.sl 112 p2), .d (.int .i64 p3), .d (.int .i64 p4)] => fun K => z38z_L4 g n p1 p2 p3 p4 (fun z0 => K .ret (mkSt 66 2 [(2, .d (.int .i64 z0))] [])) (K (.exit 0) (mkSt 66 2 [] [])) | _ => fun _ => none
noncomputable def code_118 : Code := (Tryz.f118.body).getD .skip
noncomputable def E_z38z (g : C_z38z) : Env A := mkE [(49, SS_kit_IsKey g.kit_IsKey), (56, SS_strings_Compare g.strings_Compare), (60, SS_z52z g.z52z), (77, SS_z34z g.z34z), (97, SS_call_Is g.call_Is), (166, SS_z68z g.z68z)] [(4, [0]), (61, [1])] [(4, ⟨[0, 8, 9, 10], [], [], [], [], []⟩)] [(4, ⟨[2], [], [], [], [], []⟩)] [(4, pieceOf sh_z38z_L4 (LP_z38z_L4 g g.N))] [] [] [] [] []
theorem ct_z38z [Fuel] : NatTab (E_z38z I_z38z).C := ct_of (P := Tryz.prog) (T := T) (.cons ok_kit_IsKey (.cons ok_strings_Compare (.cons ok_z52z (.cons ok_z34z (.cons ok_call_Is (.cons ok_z68z .nil)))))) (by kernel_rfl)
noncomputable def cb_z38z_L4 : Code := sub [1, 1, 0, 1, 0, 0] code_118
theorem s_z38z_L4 (g : C_z38z) (n : Nat) : StepOk (E_z38z g) g.N cb_z38z_L4 sh_z38z_L4 (LP_z38z_L4 g) n := by intro ps; unfold LP_z38z_L4; split; exact .inr fun R K => (by kernel_rfl); exact .inl fun R K => rfl
theorem lf_z38z_L4 [Fuel] : LoopFine (E_z38z I_z38z) NN cb_z38z_L4 := fine_loop sh_z38z_L4 (LP_z38z_L4 I_z38z) (by kernel_rfl) ct_z38z (cuts0 (fun _ => rfl) (by kernel_rfl)) (fun ps R K => by unfold LP_z38z_L4; split <;> (try unfold z38z_L4) <;> rfl) (s_z38z_L4 I_z38z)
theorem sm_z38z (g : C_z38z) : Same (SS_z38z (@z38z_ g)) (abody (E_z38z g) Tryz.f118 code_118 2 [] [.asis] g.N) := by intro args; unfold SS_z38z; split; exact .inr fun R k => (by kernel_rfl); exact .inl fun R k => rfl
theorem ok_z38z [Fuel] : Ok 118 (SS_z38z (@z38z _)) := okF_of std (.cons ok_kit_IsKey (.cons ok_strings_Compare (.cons ok_z52z (.cons ok_z34z (.cons ok_call_Is (.cons ok_z68z .nil)))))) ⟨rfl, rfl, by kernel_rfl, rfl, rfl, rfl⟩ (sm_z38z I_z38z) (cutsL (fun _ => rfl) (.cons lf_z38z_L4 .nil) (by kernel_rfl)) Tryz.func118 (by kernel_rfl) (by kernel_rfl)
end Go.Am
