/- The functions of the program as Lean functions, each shown to be what the code computes, part 10. No condition: lemmas for the claim. -/
import Derived.Test.YtkcbebmbmffkjaaGreatDoorF0
import Derived.Test.YtkcbebmbmffkjaaGreatDoorFSh
import Derived.Test.YtkcbebmbmffkjaaGreatDoorF1
import Derived.Test.YtkcbebmbmffkjaaGreatDoorF2
import Derived.Test.YtkcbebmbmffkjaaGreatDoorF3
import Derived.Test.YtkcbebmbmffkjaaGreatDoorF4
import Derived.Test.YtkcbebmbmffkjaaGreatDoorF9
set_option linter.unusedVariables false
set_option maxRecDepth 100000
namespace Go.Am
open Go Go.Proofs
abbrev T_z65z : Type 1 := G_Segment → G_Segment → {R : Type} → (Int → Option R) → Option R
structure C_z65z where
 N : Nat
 strings_Compare : T_strings_Compare
 z54z : T_z54z
 z47z : T_z47z
def z65z_ (g : C_z65z) (a1 a2 : G_Segment) {R : Type} (k0 : Int → Option R) : Option R :=
 (g.strings_Compare a1.f_Class a2.f_Class (fun r3 => (g.z47z a1.f_Low a2.f_Low (fun r4 => (g.z47z a1.f_High a2.f_High (fun r5 => (g.z47z a1.f_Time.f_From a2.f_Time.f_From (fun r6 => (g.z54z [r3, r4, r5, r6] (fun r7 => k0 r7))))))))))
noncomputable def I_z65z [Fuel] : C_z65z := ⟨NN, @strings_Compare _, @z54z _, @z47z _⟩
noncomputable def z65z [Fuel] : T_z65z := @z65z_ I_z65z
def SS_z65z (g : T_z65z) : Spec A := fun args => match args with | [.agg [.d (.str a1), .d (.int .i64 a2), .d (.int .i64 a3), .d (.sl 3 a4), .d (.int .i64 a5), .d (.int .i64 a6)], .agg [.d (.str a7), .d (.int .i64 a8), .d (.int .i64 a9), .d (.sl 3 a10), .d (.int .i64 a11), .d (.int .i64 a12)]] => fun k => g ⟨a1, a2, a3, a4, ⟨a5, a6⟩⟩ ⟨a7, a8, a9, a10, ⟨a11, a12⟩⟩ (fun z0 => k (.d (.int .i64 z0)) [.undef, .undef]) | _ => fun _ => none
noncomputable def code_150 : Code := (Tryz.f150.body).getD .skip
noncomputable def E_z65z (g : C_z65z) : Env A := mkE [(93, SS_strings_Compare g.strings_Compare), (123, SS_z54z g.z54z), (124, SS_z47z g.z47z)] [(2, [0]), (3, [1]), (27, [2])] [] [] [] [] [] [] [] []
theorem sm_z65z (g : C_z65z) : Same (SS_z65z (@z65z_ g)) (abody (E_z65z g) Tryz.f150 code_150 3 [] [.asis] g.N) := by intro args; unfold SS_z65z; split; exact .inr fun R k => (by kernel_rfl); exact .inl fun R k => rfl
theorem ok_z65z [Fuel] : Ok 150 (SS_z65z (@z65z _)) := okF_of std (.cons ok_strings_Compare (.cons ok_z54z (.cons ok_z47z .nil))) ⟨rfl, rfl, by kernel_rfl, rfl, rfl, rfl⟩ (sm_z65z I_z65z) (cuts0 (fun _ => rfl) (by kernel_rfl)) Tryz.func150 (by kernel_rfl) (by kernel_rfl)
abbrev T_z37z : Type 1 := List G_Segment → {R : Type} → (Int → Option R) → Option R
structure C_z37z where
 N : Nat
 kit_IsKey : T_kit_IsKey
 z42z : T_z42z
 kit_IsTime : T_kit_IsTime
 z65z : T_z65z
def z37z_L4 (g : C_z37z) : Nat → List G_Segment → List G_Segment → Int → Int → {R : Type} → (Int → Option R) → Option R → Option R
 | 0, _, _, _, _, _, _, _ => none
 | n + 1, v2, v3, v4, v5, _, e0, e1 => (bif (decide (v5 < v4)) then (get_ v3 v5 fun x12 => (g.kit_IsKey x12.f_Class (fun r13 => (bif (!r13) then e0 5 else (bif (decide (x12.f_Low < 0)) then e0 1 else (bif (decide (x12.f_Low ≥ x12.f_High)) then e0 1 else (bif (decide (x12.f_High > 30000000000)) then e0 1 else (g.z42z x12.f_Modes (fun r14 => (bif (r14 != 0) then e0 r14 else (g.kit_IsTime x12.f_Time (fun r15 => (bif (!r15) then e0 1 else (bif (decide (v5 > 0)) then (get_ v2 (w64 (v5 - 1)) fun x16 => (g.z65z x16 x12 (fun r17 => (bif (decide (r17 ≥ 0)) then e0 7 else z37z_L4 g n v2 v3 v4 (w64 (v5 + 1)) e0 e1)))) else z37z_L4 g n v2 v3 v4 (w64 (v5 + 1)) e0 e1)))))))))))))) else e1)
def z37z_ (g : C_z37z) (a1 : List G_Segment) {R : Type} (k0 : Int → Option R) : Option R :=
 (bif (decide ((a1.length : Int) > 500)) then k0 2 else (z37z_L4 g g.N a1 a1 (a1.length : Int) 0 (fun e18 => k0 e18) (k0 0)))
noncomputable def I_z37z [Fuel] : C_z37z := ⟨NN, @kit_IsKey _, @z42z _, @kit_IsTime _, @z65z _⟩
noncomputable def z37z [Fuel] : T_z37z := @z37z_ I_z37z
def SS_z37z (g : T_z37z) : Spec A := fun args => match args with | [.d (.sl 110 a1)] => fun k => g a1 (fun z0 => k (.d (.int .i64 z0)) [.undef]) | _ => fun _ => none
def sh_z37z_L4 : SSt := mkSh 58 1 [(0, .sl 110), (9, .sl 110), (10, .int .i64), (11, .int .i64)] []
def LP_z37z_L4 (g : C_z37z) (n : Nat) : LPT A := fun ps => match ps with | [.d (.sl 110 p1), .d (.sl 110 p2), .d (.int .i64 p3), .d (.int .i64 p4)] => fun K => z37z_L4 g n p1 p2 p3 p4 (fun z0 => K .ret (mkSt 58 1 [(2, .d (.int .i64 z0))] [])) (K (.exit 0) (mkSt 58 1 [] [])) | _ => fun _ => none
noncomputable def code_114 : Code := (Tryz.f114.body).getD .skip
noncomputable def E_z37z (g : C_z37z) : Env A := mkE [(115, SS_kit_IsKey g.kit_IsKey), (148, SS_z42z g.z42z), (149, SS_kit_IsTime g.kit_IsTime), (150, SS_z65z g.z65z)] [(4, [0])] [(4, ⟨[0, 9, 10, 11], [], [], [], [], [], []⟩)] [(4, ⟨[2], [], [], [], [], [], []⟩)] [(4, pieceOf sh_z37z_L4 (LP_z37z_L4 g g.N))] [] [] [] [] []
theorem ct_z37z [Fuel] : NatTab (E_z37z I_z37z).C := ct_of (P := Tryz.prog) (T := T) (.cons ok_kit_IsKey (.cons ok_z42z (.cons ok_kit_IsTime (.cons ok_z65z .nil)))) (by kernel_rfl)
noncomputable def cb_z37z_L4 : Code := sub [1, 1, 0, 1, 0, 0] code_114
theorem s_z37z_L4 (g : C_z37z) (n : Nat) : StepOk (E_z37z g) g.N cb_z37z_L4 sh_z37z_L4 (LP_z37z_L4 g) n := by intro ps; unfold LP_z37z_L4; split; exact .inr fun R K => (by kernel_rfl); exact .inl fun R K => rfl
theorem lf_z37z_L4 [Fuel] : LoopFine (E_z37z I_z37z) NN cb_z37z_L4 := fine_loop sh_z37z_L4 (LP_z37z_L4 I_z37z) (by kernel_rfl) ct_z37z (cuts0 (fun _ => rfl) (by kernel_rfl)) (fun ps R K => by unfold LP_z37z_L4; split <;> (try unfold z37z_L4) <;> rfl) (s_z37z_L4 I_z37z)
theorem sm_z37z (g : C_z37z) : Same (SS_z37z (@z37z_ g)) (abody (E_z37z g) Tryz.f114 code_114 1 [] [.asis] g.N) := by intro args; unfold SS_z37z; split; exact .inr fun R k => (by kernel_rfl); exact .inl fun R k => rfl
theorem ok_z37z [Fuel] : Ok 114 (SS_z37z (@z37z _)) := okF_of std (.cons ok_kit_IsKey (.cons ok_z42z (.cons ok_kit_IsTime (.cons ok_z65z .nil)))) ⟨rfl, rfl, by kernel_rfl, rfl, rfl, rfl⟩ (sm_z37z I_z37z) (cutsL (fun _ => rfl) (.cons lf_z37z_L4 .nil) (by kernel_rfl)) Tryz.func114 (by kernel_rfl) (by kernel_rfl)
abbrev T_band_used : Type 1 := Int → Int → {R : Type} → (G_Row → Option R) → Option R
def band_used_ (g : Nat) (a1 a2 : Int) {R : Type} (k0 : G_Row → Option R) : Option R :=
 k0 (⟨(w64 (a1 - (w64 (Int.tdiv a2 2)))), (w64 ((w64 (a1 - (w64 (Int.tdiv a2 2)))) + a2))⟩ : G_Row)
noncomputable def band_used [Fuel] : T_band_used := @band_used_ NN
def SS_band_used (g : T_band_used) : Spec A := fun args => match args with | [.d (.int .i64 a1), .d (.int .i64 a2)] => fun k => g a1 a2 (fun z0 => k (.agg [.d (.int .i64 z0.f_From), .d (.int .i64 z0.f_To)]) [.undef, .undef]) | _ => fun _ => none
noncomputable def code_116 : Code := (Tryz.f116.body).getD .skip
noncomputable def E_band_used (g : Nat) : Env A := mkE [] [(4, [0])] [] [] [] [] [] [] [] []
theorem sm_band_used (g : Nat) : Same (SS_band_used (@band_used_ g)) (abody (E_band_used g) Tryz.f116 code_116 1 [] [.asis] g) := by intro args; unfold SS_band_used; split; exact .inr fun R k => (by kernel_rfl); exact .inl fun R k => rfl
theorem ok_band_used [Fuel] : Ok 116 (SS_band_used (@band_used _)) := okF_of std .nil ⟨rfl, rfl, by kernel_rfl, rfl, rfl, rfl⟩ (sm_band_used NN) (cuts0 (fun _ => rfl) (by kernel_rfl)) Tryz.func116 (by kernel_rfl) (by kernel_rfl)
abbrev T_kit_Has : Type 1 := G_Window → Int → {R : Type} → (Bool → Option R) → Option R
def kit_Has_ (g : Nat) (a1 : G_Window) (a2 : Int) {R : Type} (k0 : Bool → Option R) : Option R :=
 (bif (decide (a1.f_From ≤ a2)) then k0 (decide (a2 < a1.f_To)) else k0 false)
noncomputable def kit_Has [Fuel] : T_kit_Has := @kit_Has_ NN
def SS_kit_Has (g : T_kit_Has) : Spec A := fun args => match args with | [.agg [.d (.int .i64 a1), .d (.int .i64 a2)], .d (.int .i64 a3)] => fun k => g ⟨a1, a2⟩ a3 (fun z0 => k (.d (.bool z0)) [.undef, .undef]) | _ => fun _ => none
noncomputable def code_154 : Code := (Tryz.f154.body).getD .skip
noncomputable def E_kit_Has (g : Nat) : Env A := mkE [] [(2, [0])] [] [] [] [] [] [] [] []
theorem sm_kit_Has (g : Nat) : Same (SS_kit_Has (@kit_Has_ g)) (abody (E_kit_Has g) Tryz.f154 code_154 1 [] [.asis] g) := by intro args; unfold SS_kit_Has; split; exact .inr fun R k => (by kernel_rfl); exact .inl fun R k => rfl
theorem ok_kit_Has [Fuel] : Ok 154 (SS_kit_Has (@kit_Has _)) := okF_of std .nil ⟨rfl, rfl, by kernel_rfl, rfl, rfl, rfl⟩ (sm_kit_Has NN) (cuts0 (fun _ => rfl) (by kernel_rfl)) Tryz.func154 (by kernel_rfl) (by kernel_rfl)
abbrev T_z59z : Type 1 := List Int → Int → {R : Type} → (Int → Option R) → Option R
def z59z_L2 (g : Nat) : Nat → List Int → Int → Int → Int → {R : Type} → (Int → Option R) → Option R → Option R
 | 0, _, _, _, _, _, _, _ => none
 | n + 1, v3, v4, v5, v6, _, e0, e1 => (bif (decide (v6 < v5)) then (get_ v3 v6 fun x8 => (bif (v4 == x8) then e0 v6 else z59z_L2 g n v3 v4 v5 (w64 (v6 + 1)) e0 e1)) else e1)
def z59z_ (g : Nat) (a1 : List Int) (a2 : Int) {R : Type} (k0 : Int → Option R) : Option R :=
 (z59z_L2 g g a1 a2 (a1.length : Int) 0 (fun e9 => k0 e9) (k0 (-1)))
noncomputable def z59z [Fuel] : T_z59z := @z59z_ NN
def SS_z59z (g : T_z59z) : Spec A := fun args => match args with | [.d (.sl 3 a1), .d (.int .i64 a2)] => fun k => g a1 a2 (fun z0 => k (.d (.int .i64 z0)) [.undef, .undef]) | _ => fun _ => none
def sh_z59z_L2 : SSt := mkSh 19 0 [(0, .sl 3), (1, .int .i64), (7, .int .i64), (8, .int .i64)] []
def LP_z59z_L2 (g : Nat) (n : Nat) : LPT A := fun ps => match ps with | [.d (.sl 3 p1), .d (.int .i64 p2), .d (.int .i64 p3), .d (.int .i64 p4)] => fun K => z59z_L2 g n p1 p2 p3 p4 (fun z0 => K .ret (mkSt 19 0 [(4, .d (.int .i64 z0))] [])) (K (.exit 0) (mkSt 19 0 [] [])) | _ => fun _ => none
noncomputable def code_192 : Code := (Tryz.f192.body).getD .skip
noncomputable def E_z59z (g : Nat) : Env A := mkE [] [] [(2, ⟨[0, 1, 7, 8], [], [], [], [], [], []⟩)] [(2, ⟨[4], [], [], [], [], [], []⟩)] [(2, pieceOf sh_z59z_L2 (LP_z59z_L2 g g))] [] [] [] [] []
theorem ct_z59z [Fuel] : NatTab (E_z59z NN).C := ct_of (P := Tryz.prog) (T := T) .nil (by kernel_rfl)
noncomputable def cb_z59z_L2 : Code := sub [1, 0, 1, 0, 0] code_192
theorem s_z59z_L2 (g : Nat) (n : Nat) : StepOk (E_z59z g) g cb_z59z_L2 sh_z59z_L2 (LP_z59z_L2 g) n := by intro ps; unfold LP_z59z_L2; split; exact .inr fun R K => (by kernel_rfl); exact .inl fun R K => rfl
theorem lf_z59z_L2 [Fuel] : LoopFine (E_z59z NN) NN cb_z59z_L2 := fine_loop sh_z59z_L2 (LP_z59z_L2 NN) (by kernel_rfl) ct_z59z (cuts0 (fun _ => rfl) (by kernel_rfl)) (fun ps R K => by unfold LP_z59z_L2; split <;> (try unfold z59z_L2) <;> rfl) (s_z59z_L2 NN)
theorem sm_z59z (g : Nat) : Same (SS_z59z (@z59z_ g)) (abody (E_z59z g) Tryz.f192 code_192 0 [] [.asis] g) := by intro args; unfold SS_z59z; split; exact .inr fun R k => (by kernel_rfl); exact .inl fun R k => rfl
theorem ok_z59z [Fuel] : Ok 192 (SS_z59z (@z59z _)) := okF_of std .nil ⟨rfl, rfl, by kernel_rfl, rfl, rfl, rfl⟩ (sm_z59z NN) (cutsL (fun _ => rfl) (.cons lf_z59z_L2 .nil) (by kernel_rfl)) Tryz.func192 (by kernel_rfl) (by kernel_rfl)
abbrev T_z66z : Type 1 := List Int → Int → {R : Type} → (Bool → Option R) → Option R
structure C_z66z where
 N : Nat
 z59z : T_z59z
def z66z_ (g : C_z66z) (a1 : List Int) (a2 : Int) {R : Type} (k0 : Bool → Option R) : Option R :=
 (g.z59z a1 a2 (fun r3 => k0 (decide (r3 ≥ 0))))
noncomputable def I_z66z [Fuel] : C_z66z := ⟨NN, @z59z _⟩
noncomputable def z66z [Fuel] : T_z66z := @z66z_ I_z66z
def SS_z66z (g : T_z66z) : Spec A := fun args => match args with | [.d (.sl 3 a1), .d (.int .i64 a2)] => fun k => g a1 a2 (fun z0 => k (.d (.bool z0)) [.undef, .undef]) | _ => fun _ => none
noncomputable def code_153 : Code := (Tryz.f153.body).getD .skip
noncomputable def E_z66z (g : C_z66z) : Env A := mkE [(192, SS_z59z g.z59z)] [] [] [] [] [] [] [] [] []
theorem sm_z66z (g : C_z66z) : Same (SS_z66z (@z66z_ g)) (abody (E_z66z g) Tryz.f153 code_153 0 [] [.asis] g.N) := by intro args; unfold SS_z66z; split; exact .inr fun R k => (by kernel_rfl); exact .inl fun R k => rfl
theorem ok_z66z [Fuel] : Ok 153 (SS_z66z (@z66z _)) := okF_of std (.cons ok_z59z .nil) ⟨rfl, rfl, by kernel_rfl, rfl, rfl, rfl⟩ (sm_z66z I_z66z) (cuts0 (fun _ => rfl) (by kernel_rfl)) Tryz.func153 (by kernel_rfl) (by kernel_rfl)
abbrev T_z60z : Type 1 := G_Row → G_Row → {R : Type} → (Int → Option R) → Option R
def z60z_ (g : Nat) (a1 a2 : G_Row) {R : Type} (k0 : Int → Option R) : Option R :=
 k0 (w64 (a1.f_From - a2.f_From))
noncomputable def z60z [Fuel] : T_z60z := @z60z_ NN
def SS_z60z (g : T_z60z) : Spec A := fun args => match args with | [.agg [.d (.int .i64 a1), .d (.int .i64 a2)], .agg [.d (.int .i64 a3), .d (.int .i64 a4)]] => fun k => g ⟨a1, a2⟩ ⟨a3, a4⟩ (fun z0 => k (.d (.int .i64 z0)) [.undef, .undef]) | _ => fun _ => none
noncomputable def code_194 : Code := (Tryz.f194.body).getD .skip
noncomputable def E_z60z (g : Nat) : Env A := mkE [] [(2, [0]), (3, [1])] [] [] [] [] [] [] [] []
theorem sm_z60z (g : Nat) : Same (SS_z60z (@z60z_ g)) (abody (E_z60z g) Tryz.f194 code_194 2 [] [.asis] g) := by intro args; unfold SS_z60z; split; exact .inr fun R k => (by kernel_rfl); exact .inl fun R k => rfl
theorem ok_z60z [Fuel] : Ok 194 (SS_z60z (@z60z _)) := okF_of std .nil ⟨rfl, rfl, by kernel_rfl, rfl, rfl, rfl⟩ (sm_z60z NN) (cuts0 (fun _ => rfl) (by kernel_rfl)) Tryz.func194 (by kernel_rfl) (by kernel_rfl)
noncomputable def Ed_z60z (g : Nat) : Env A := mkED [] [(2, [0]), (3, [1])] [] [] [] [] [] [] [] []
theorem smd_z60z (g : Nat) : Same (SS_z60z (@z60z_ g)) (abody (Ed_z60z g) Tryz.f194 code_194 2 [] [.asis] g) := by intro args; unfold SS_z60z; split; exact .inr fun R k => (by kernel_rfl); exact .inl fun R k => rfl
theorem okd_z60z [Fuel] : OkD 194 (SS_z60z (@z60z _)) := okF_of stdD .nil ⟨rfl, rfl, by kernel_rfl, rfl, rfl, rfl⟩ (smd_z60z NN) (cuts0 (fun _ => rfl) (by kernel_rfl)) Tryz.func194 (by kernel_rfl) (by kernel_rfl)
abbrev T_z53z : Type 1 := List G_Row → {R : Type} → (List G_Row → Option R) → Option R
noncomputable def z53z [Fuel] : T_z53z := @X_sortf G_Row (@z60z _)
def SS_z53z (g : T_z53z) : Spec A := fun args => match args with | [.arr 144 a1, .fn 194 []] => fun k => g a1 (fun z => k (.tup []) [.arr 144 z, .fn 194 []]) | _ => fun _ => none
theorem h1_z53z [Fuel] (xs : List (A 144)) (R : Type) (k : IV A → List (IV A) → Option R) : SS_z53z (@z53z _) [.arr 144 xs, .fn 194 []] k = X_sortf (α := A 144) (@z60z _) xs (fun z => k (.tup []) [.arr 144 z, .fn 194 []]) := by kernel_rfl
theorem h2_z53z [Fuel] (args : List (IV A)) (R : Type) (k : IV A → List (IV A) → Option R) (h : ∀ xs : List (A 144), args ≠ [.arr 144 xs, .fn 194 []]) : SS_z53z (@z53z _) args k = none := by unfold SS_z53z; split; exact absurd rfl (h _); rfl
theorem hc_z53z [Fuel] (x y : A 144) (R : Type) (k : Int → Option R) : callOf T (SS_z60z (@z60z _)) 144 x y k = @z60z _ x y R k := by kernel_rfl
theorem hs_z53z (x : G_Row) : (enc_e144 x).all scal = true := rfl
theorem ok_z53z [Fuel] : Ok 193 (SS_z53z (@z53z _)) := ⟨sortf_sound (tyOk Tryz.prog) (e := 144) Tryz.sortf193 Tryz.isAgg144 Tryz.sizeOf144 (fun x d hd => List.all_eq_true.1 (hs_z53z x) d hd) hc_z53z okd_z60z.fs okd_z60z.en h1_z53z h2_z53z, sortf_na (e := 144) h1_z53z h2_z53z, enters_of (fn := Tryz.f193) Tryz.func193 (by kernel_rfl) (by kernel_rfl)⟩
abbrev T_z29z : Type 1 := List G_Row → {R : Type} → (List G_Row → Option R) → Option R
structure C_z29z where
 N : Nat
 z53z : T_z53z
def z29z_L4 (g : C_z29z) : Nat → Int → Int → List G_Row → List G_Row → {R : Type} → (List G_Row → Option R) → Option R
 | 0, _, _, _, _, _, _ => none
 | n + 1, v3, v4, v5, v6, _, e0 => (bif (decide (v4 < v3)) then (inr v5 v4 (at_ v5 v4 fun x11 => (bif (decide ((w64 ((v6.length : Int) - 1)) ≥ 0)) then (inr v6 (w64 ((v6.length : Int) - 1)) (at_ v6 (w64 ((v6.length : Int) - 1)) fun x12 => (bif (decide (x11.f_From ≤ x12.f_To)) then (inr v6 (w64 ((v6.length : Int) - 1)) (at_ v6 (w64 ((v6.length : Int) - 1)) fun x13 => (inr v6 (w64 ((v6.length : Int) - 1)) (at_ v6 (w64 ((v6.length : Int) - 1)) fun x14 => z29z_L4 g n v3 (w64 (v4 + 1)) v5 (set_ v6 (w64 ((v6.length : Int) - 1)) (⟨x14.f_From, (if x11.f_To > x13.f_To then x11.f_To else x13.f_To)⟩ : G_Row)) e0)))) else (bif (decide ((v6.length + [x11].length) * 16 ≤ roomBytes')) then z29z_L4 g n v3 (w64 (v4 + 1)) v5 (v6 ++ [x11]) e0 else none)))) else (bif (decide ((v6.length + [x11].length) * 16 ≤ roomBytes')) then z29z_L4 g n v3 (w64 (v4 + 1)) v5 (v6 ++ [x11]) e0 else none)))) else e0 v6)
def z29z_ (g : C_z29z) (a1 : List G_Row) {R : Type} (k0 : List G_Row → Option R) : Option R :=
 (g.z53z a1 (fun r2 => (z29z_L4 g g.N (r2.length : Int) 0 r2 [] (fun e15 => k0 e15))))
noncomputable def I_z29z [Fuel] : C_z29z := ⟨NN, @z53z _⟩
noncomputable def z29z [Fuel] : T_z29z := @z29z_ I_z29z
def SS_z29z (g : T_z29z) : Spec A := fun args => match args with | [.arr 144 a1] => fun k => g a1 (fun z0 => k (.arr 144 z0) [.undef]) | _ => fun _ => none
def sh_z29z_L4 : SSt := mkSh 48 5 [(3, .own 144 1), (9, .own 144 0), (10, .int .i64), (11, .int .i64)] [(0, .row 144), (1, .row 144)]
def LP_z29z_L4 (g : C_z29z) (n : Nat) : LPT A := fun ps => match ps with | [.d (.int .i64 p1), .d (.int .i64 p2), .d (.sl 144 p3), .d (.sl 144 p4)] => fun K => z29z_L4 g n p1 p2 p3 p4 (fun z0 => K (.exit 0) (mkSt 48 5 [(3, .own 144 1)] [(1, some (.row 144 z0))])) | _ => fun _ => none
noncomputable def code_155 : Code := (Tryz.f155.body).getD .skip
noncomputable def E_z29z (g : C_z29z) : Env A := mkE [(193, SS_z53z g.z53z)] [(5, [2]), (44, [3]), (45, [4])] [(4, ⟨[3, 9, 10, 11], [(3, 144, 1)], [0], [], [], [], []⟩)] [(4, ⟨[3], [], [1], [], [], [], []⟩)] [(4, pieceOf sh_z29z_L4 (LP_z29z_L4 g g.N))] [] [] [] [(193, 0)] []
theorem ct_z29z [Fuel] : NatTab (E_z29z I_z29z).C := ct_of (P := Tryz.prog) (T := T) (.cons ok_z53z .nil) (by kernel_rfl)
noncomputable def cb_z29z_L4 : Code := sub [1, 1, 1, 0, 1, 0, 0] code_155
theorem s_z29z_L4 (g : C_z29z) (n : Nat) : StepOk (E_z29z g) g.N cb_z29z_L4 sh_z29z_L4 (LP_z29z_L4 g) n := by intro ps; unfold LP_z29z_L4; split; exact .inr fun R K => (by kernel_rfl); exact .inl fun R K => rfl
theorem lf_z29z_L4 [Fuel] : LoopFine (E_z29z I_z29z) NN cb_z29z_L4 := fine_loop sh_z29z_L4 (LP_z29z_L4 I_z29z) (by kernel_rfl) ct_z29z (cuts0 (fun _ => rfl) (by kernel_rfl)) (fun ps R K => by unfold LP_z29z_L4; split <;> (try unfold z29z_L4) <;> rfl) (s_z29z_L4 I_z29z)
theorem sm_z29z (g : C_z29z) : Same (SS_z29z (@z29z_ g)) (abody (E_z29z g) Tryz.f155 code_155 5 [0] [.arr 144] g.N) := by intro args; unfold SS_z29z; split; exact .inr fun R k => (by kernel_rfl); exact .inl fun R k => rfl
theorem ok_z29z [Fuel] : Ok 155 (SS_z29z (@z29z _)) := okF_of std (.cons ok_z53z .nil) ⟨rfl, rfl, by kernel_rfl, rfl, rfl, rfl⟩ (sm_z29z I_z29z) (cutsL (fun _ => rfl) (.cons lf_z29z_L4 .nil) (by kernel_rfl)) Tryz.func155 (by kernel_rfl) (by kernel_rfl)
abbrev T_z43z : Type 1 := List G_Segment → List UInt8 → Int → Int → {R : Type} → (List G_Row → Option R) → Option R
structure C_z43z where
 N : Nat
 z66z : T_z66z
 kit_Has : T_kit_Has
 z29z : T_z29z
def z43z_L3 (g : C_z43z) : Nat → List UInt8 → Int → Int → List G_Segment → Int → Int → List G_Row → {R : Type} → (List G_Row → Option R) → Option R
 | 0, _, _, _, _, _, _, _, _, _ => none
 | n + 1, v5, v6, v7, v8, v9, v10, v11, _, e0 => (bif (decide (v10 < v9)) then (get_ v8 v10 fun x16 => (bif (x16.f_Class == v5) then (bif (v6 == 0) then (g.kit_Has x16.f_Time v7 (fun r17 => (bif r17 then (bif (decide ((v11.length + [(⟨x16.f_Low, x16.f_High⟩ : G_Row)].length) * 16 ≤ roomBytes')) then z43z_L3 g n v5 v6 v7 v8 v9 (w64 (v10 + 1)) (v11 ++ [(⟨x16.f_Low, x16.f_High⟩ : G_Row)]) e0 else none) else z43z_L3 g n v5 v6 v7 v8 v9 (w64 (v10 + 1)) v11 e0))) else (g.z66z x16.f_Modes v6 (fun r18 => (bif r18 then (g.kit_Has x16.f_Time v7 (fun r19 => (bif r19 then (bif (decide ((v11.length + [(⟨x16.f_Low, x16.f_High⟩ : G_Row)].length) * 16 ≤ roomBytes')) then z43z_L3 g n v5 v6 v7 v8 v9 (w64 (v10 + 1)) (v11 ++ [(⟨x16.f_Low, x16.f_High⟩ : G_Row)]) e0 else none) else z43z_L3 g n v5 v6 v7 v8 v9 (w64 (v10 + 1)) v11 e0))) else z43z_L3 g n v5 v6 v7 v8 v9 (w64 (v10 + 1)) v11 e0)))) else z43z_L3 g n v5 v6 v7 v8 v9 (w64 (v10 + 1)) v11 e0)) else e0 v11)
def z43z_ (g : C_z43z) (a1 : List G_Segment) (a2 : List UInt8) (a3 a4 : Int) {R : Type} (k0 : List G_Row → Option R) : Option R :=
 (z43z_L3 g g.N a2 a3 a4 a1 (a1.length : Int) 0 [] (fun e20 => (g.z29z e20 (fun r21 => k0 r21))))
noncomputable def I_z43z [Fuel] : C_z43z := ⟨NN, @z66z _, @kit_Has _, @z29z _⟩
noncomputable def z43z [Fuel] : T_z43z := @z43z_ I_z43z
def SS_z43z (g : T_z43z) : Spec A := fun args => match args with | [.d (.sl 110 a1), .d (.str a2), .d (.int .i64 a3), .d (.int .i64 a4)] => fun k => g a1 a2 a3 a4 (fun z0 => k (.arr 144 z0) [.undef, .undef, .undef, .undef]) | _ => fun _ => none
def sh_z43z_L3 : SSt := mkSh 49 5 [(1, .str), (2, .int .i64), (3, .int .i64), (9, .own 144 0), (12, .sl 110), (13, .int .i64), (14, .int .i64)] [(0, .row 144)]
def LP_z43z_L3 (g : C_z43z) (n : Nat) : LPT A := fun ps => match ps with | [.d (.str p1), .d (.int .i64 p2), .d (.int .i64 p3), .d (.sl 110 p4), .d (.int .i64 p5), .d (.int .i64 p6), .d (.sl 144 p7)] => fun K => z43z_L3 g n p1 p2 p3 p4 p5 p6 p7 (fun z0 => K (.exit 0) (mkSt 49 5 [(9, .own 144 0)] [(0, some (.row 144 z0))])) | _ => fun _ => none
noncomputable def code_118 : Code := (Tryz.f118.body).getD .skip
noncomputable def E_z43z (g : C_z43z) : Env A := mkE [(153, SS_z66z g.z66z), (154, SS_kit_Has g.kit_Has), (155, SS_z29z g.z29z)] [(11, [1]), (44, [2]), (45, [3]), (48, [4])] [(3, ⟨[1, 2, 3, 9, 12, 13, 14], [(9, 144, 0)], [], [], [], [], []⟩)] [(3, ⟨[9], [], [0], [], [], [], []⟩)] [(3, pieceOf sh_z43z_L3 (LP_z43z_L3 g g.N))] [] [] [] [(155, 0)] []
theorem ct_z43z [Fuel] : NatTab (E_z43z I_z43z).C := ct_of (P := Tryz.prog) (T := T) (.cons ok_z66z (.cons ok_kit_Has (.cons ok_z29z .nil))) (by kernel_rfl)
noncomputable def cb_z43z_L3 : Code := sub [1, 1, 0, 1, 0, 0] code_118
theorem s_z43z_L3 (g : C_z43z) (n : Nat) : StepOk (E_z43z g) g.N cb_z43z_L3 sh_z43z_L3 (LP_z43z_L3 g) n := by intro ps; unfold LP_z43z_L3; split; exact .inr fun R K => (by kernel_rfl); exact .inl fun R K => rfl
theorem lf_z43z_L3 [Fuel] : LoopFine (E_z43z I_z43z) NN cb_z43z_L3 := fine_loop sh_z43z_L3 (LP_z43z_L3 I_z43z) (by kernel_rfl) ct_z43z (cuts0 (fun _ => rfl) (by kernel_rfl)) (fun ps R K => by unfold LP_z43z_L3; split <;> (try unfold z43z_L3) <;> rfl) (s_z43z_L3 I_z43z)
theorem sm_z43z (g : C_z43z) : Same (SS_z43z (@z43z_ g)) (abody (E_z43z g) Tryz.f118 code_118 5 [] [.arr 144] g.N) := by intro args; unfold SS_z43z; split; exact .inr fun R k => (by kernel_rfl); exact .inl fun R k => rfl
theorem ok_z43z [Fuel] : Ok 118 (SS_z43z (@z43z _)) := okF_of std (.cons ok_z66z (.cons ok_kit_Has (.cons ok_z29z .nil))) ⟨rfl, rfl, by kernel_rfl, rfl, rfl, rfl⟩ (sm_z43z I_z43z) (cutsL (fun _ => rfl) (.cons lf_z43z_L3 .nil) (by kernel_rfl)) Tryz.func118 (by kernel_rfl) (by kernel_rfl)
abbrev T_band_May_1 : Type 1 := G_Row → G_Row → {R : Type} → (Bool → G_Row → Option R) → Option R
def band_May_1_ (g : Nat) (a1 a2 : G_Row) {R : Type} (k0 : Bool → G_Row → Option R) : Option R :=
 (bif (decide (a1.f_From ≤ a2.f_From)) then k0 (decide (a2.f_To ≤ a1.f_To)) a2 else k0 false a2)
noncomputable def band_May_1 [Fuel] : T_band_May_1 := @band_May_1_ NN
def SS_band_May_1 (g : T_band_May_1) : Spec A := fun args => match args with | [.agg [.d (.int .i64 a1), .d (.int .i64 a2)], .box [.d (.int .i64 a3), .d (.int .i64 a4)]] => fun k => g ⟨a1, a2⟩ ⟨a3, a4⟩ (fun z0 z1 => k (.d (.bool z0)) [.undef, .box [.d (.int .i64 z1.f_From), .d (.int .i64 z1.f_To)]]) | _ => fun _ => none
noncomputable def code_119 : Code := (Tryz.f119.body).getD .skip
noncomputable def E_band_May_1 (g : Nat) : Env A := mkE [] [(2, [1])] [] [] [] [] [] [] [] [1]
theorem sm_band_May_1 (g : Nat) : Same (SS_band_May_1 (@band_May_1_ g)) (abody (E_band_May_1 g) Tryz.f119 code_119 2 [0] [.asis] g) := by intro args; unfold SS_band_May_1; split; exact .inr fun R k => (by kernel_rfl); exact .inl fun R k => rfl
theorem ok_band_May_1 [Fuel] : Ok 119 (SS_band_May_1 (@band_May_1 _)) := okF_of std .nil ⟨rfl, rfl, by kernel_rfl, rfl, rfl, rfl⟩ (sm_band_May_1 NN) (cuts0 (fun _ => rfl) (by kernel_rfl)) Tryz.func119 (by kernel_rfl) (by kernel_rfl)
abbrev T_z18z : Type 1 := List G_Row → G_Row → {R : Type} → (Int → G_Row → Option R) → Option R
structure C_z18z where
 N : Nat
 band_May_1 : T_band_May_1
def z18z_L2 (g : C_z18z) : Nat → List G_Row → Int → Int → G_Row → {R : Type} → (Int → G_Row → Option R) → (G_Row → Option R) → Option R
 | 0, _, _, _, _, _, _, _ => none
 | n + 1, v3, v4, v5, v6, _, e0, e1 => (bif (decide (v5 < v4)) then (get_ v3 v5 fun x10 => (g.band_May_1 x10 v6 (fun r11 r12 => (bif r11 then e0 v5 r12 else z18z_L2 g n v3 v4 (w64 (v5 + 1)) r12 e0 e1)))) else e1 v6)
def z18z_ (g : C_z18z) (a1 : List G_Row) (a2 : G_Row) {R : Type} (k0 : Int → G_Row → Option R) : Option R :=
 (z18z_L2 g g.N a1 (a1.length : Int) 0 a2 (fun e13 e14 => k0 e13 e14) (fun e15 => k0 (-1) e15))
noncomputable def I_z18z [Fuel] : C_z18z := ⟨NN, @band_May_1 _⟩
noncomputable def z18z [Fuel] : T_z18z := @z18z_ I_z18z
def SS_z18z (g : T_z18z) : Spec A := fun args => match args with | [.d (.sl 144 a1), .fn 119 [.box [.d (.int .i64 a2), .d (.int .i64 a3)]]] => fun k => g a1 ⟨a2, a3⟩ (fun z0 z1 => k (.d (.int .i64 z0)) [.undef, .fn 119 [.box [.d (.int .i64 z1.f_From), .d (.int .i64 z1.f_To)]]]) | _ => fun _ => none
def sh_z18z_L2 : SSt := mkSh 19 1 [(0, .sl 144), (1, .fn 119 [.ptr 0 0]), (7, .int .i64), (8, .int .i64)] [(0, .box [.int .i64, .int .i64])]
def LP_z18z_L2 (g : C_z18z) (n : Nat) : LPT A := fun ps => match ps with | [.d (.sl 144 p1), .d (.int .i64 p2), .d (.int .i64 p3), .d (.int .i64 p4), .d (.int .i64 p5)] => fun K => z18z_L2 g n p1 p2 p3 ⟨p4, p5⟩ (fun z0 z1 => K .ret (mkSt 19 1 [(1, .fn 119 [.ptr 0 0]), (4, .d (.int .i64 z0))] [(0, some (.box [.d (.int .i64 z1.f_From), .d (.int .i64 z1.f_To)]))])) (fun z0 => K (.exit 0) (mkSt 19 1 [(1, .fn 119 [.ptr 0 0])] [(0, some (.box [.d (.int .i64 z0.f_From), .d (.int .i64 z0.f_To)]))])) | _ => fun _ => none
noncomputable def code_152 : Code := (Tryz.f152.body).getD .skip
noncomputable def E_z18z (g : C_z18z) : Env A := mkE [(119, SS_band_May_1 g.band_May_1)] [] [(2, ⟨[0, 1, 7, 8], [], [0], [], [], [], []⟩)] [(2, ⟨[1, 4], [], [0], [], [], [], []⟩)] [(2, pieceOf sh_z18z_L2 (LP_z18z_L2 g g.N))] [] [] [] [] [1]
theorem ct_z18z [Fuel] : NatTab (E_z18z I_z18z).C := ct_of (P := Tryz.prog) (T := T) (.cons ok_band_May_1 .nil) (by kernel_rfl)
noncomputable def cb_z18z_L2 : Code := sub [1, 0, 1, 0, 0] code_152
theorem s_z18z_L2 (g : C_z18z) (n : Nat) : StepOk (E_z18z g) g.N cb_z18z_L2 sh_z18z_L2 (LP_z18z_L2 g) n := by intro ps; unfold LP_z18z_L2; split; exact .inr fun R K => (by kernel_rfl); exact .inl fun R K => rfl
theorem lf_z18z_L2 [Fuel] : LoopFine (E_z18z I_z18z) NN cb_z18z_L2 := fine_loop sh_z18z_L2 (LP_z18z_L2 I_z18z) (by kernel_rfl) ct_z18z (cuts0 (fun _ => rfl) (by kernel_rfl)) (fun ps R K => by unfold LP_z18z_L2; split <;> (try unfold z18z_L2) <;> rfl) (s_z18z_L2 I_z18z)
theorem sm_z18z (g : C_z18z) : Same (SS_z18z (@z18z_ g)) (abody (E_z18z g) Tryz.f152 code_152 1 [0] [.asis] g.N) := by intro args; unfold SS_z18z; split; exact .inr fun R k => (by kernel_rfl); exact .inl fun R k => rfl
theorem ok_z18z [Fuel] : Ok 152 (SS_z18z (@z18z _)) := okF_of std (.cons ok_band_May_1 .nil) ⟨rfl, rfl, by kernel_rfl, rfl, rfl, rfl⟩ (sm_z18z I_z18z) (cutsL (fun _ => rfl) (.cons lf_z18z_L2 .nil) (by kernel_rfl)) Tryz.func152 (by kernel_rfl) (by kernel_rfl)
abbrev T_z44z : Type 1 := List G_Row → G_Row → {R : Type} → (Bool → G_Row → Option R) → Option R
structure C_z44z where
 N : Nat
 z18z : T_z18z
def z44z_ (g : C_z44z) (a1 : List G_Row) (a2 : G_Row) {R : Type} (k0 : Bool → G_Row → Option R) : Option R :=
 (g.z18z a1 a2 (fun r3 r4 => k0 (decide (r3 ≥ 0)) r4))
noncomputable def I_z44z [Fuel] : C_z44z := ⟨NN, @z18z _⟩
noncomputable def z44z [Fuel] : T_z44z := @z44z_ I_z44z
def SS_z44z (g : T_z44z) : Spec A := fun args => match args with | [.d (.sl 144 a1), .fn 119 [.box [.d (.int .i64 a2), .d (.int .i64 a3)]]] => fun k => g a1 ⟨a2, a3⟩ (fun z0 z1 => k (.d (.bool z0)) [.undef, .fn 119 [.box [.d (.int .i64 z1.f_From), .d (.int .i64 z1.f_To)]]]) | _ => fun _ => none
noncomputable def code_117 : Code := (Tryz.f117.body).getD .skip
noncomputable def E_z44z (g : C_z44z) : Env A := mkE [(152, SS_z18z g.z18z)] [] [] [] [] [] [] [] [(152, 0)] [1]
theorem sm_z44z (g : C_z44z) : Same (SS_z44z (@z44z_ g)) (abody (E_z44z g) Tryz.f117 code_117 1 [0] [.asis] g.N) := by intro args; unfold SS_z44z; split; exact .inr fun R k => (by kernel_rfl); exact .inl fun R k => rfl
theorem ok_z44z [Fuel] : Ok 117 (SS_z44z (@z44z _)) := okF_of std (.cons ok_z18z .nil) ⟨rfl, rfl, by kernel_rfl, rfl, rfl, rfl⟩ (sm_z44z I_z44z) (cuts0 (fun _ => rfl) (by kernel_rfl)) Tryz.func117 (by kernel_rfl) (by kernel_rfl)
abbrev T_band_May : Type 1 := List G_Segment → List UInt8 → Int → Int → Int → Int → {R : Type} → (Bool → Int → Option R) → Option R
structure C_band_May where
 N : Nat
 kit_IsMode : T_kit_IsMode
 z73z : T_z73z
 z62z : T_z62z
 z37z : T_z37z
 kit_IsKey : T_kit_IsKey
 band_used : T_band_used
 z44z : T_z44z
 z43z : T_z43z
def band_May_ (g : C_band_May) (a1 : List G_Segment) (a2 : List UInt8) (a3 a4 a5 a6 : Int) {R : Type} (k0 : Bool → Int → Option R) : Option R :=
 (g.z37z a1 (fun r7 => (bif (r7 != 0) then k0 false r7 else (g.kit_IsKey a2 (fun r8 => (bif (!r8) then k0 false 5 else (g.z62z a3 0 30000000000 (fun r9 => (bif r9 then k0 false 1 else (g.z62z a4 1 100000 (fun r10 => (bif r10 then k0 false 1 else (g.kit_IsMode a5 (fun r11 => (bif (!r11) then k0 false 4 else (g.z73z a6 (fun r12 => (bif (!r12) then k0 false 1 else (g.band_used a3 a4 (fun r13 => (g.z43z a1 a2 a5 a6 (fun r14 => (g.z44z r14 r13 (fun r15 r16 => k0 r15 0))))))))))))))))))))))))
noncomputable def I_band_May [Fuel] : C_band_May := ⟨NN, @kit_IsMode _, @z73z _, @z62z _, @z37z _, @kit_IsKey _, @band_used _, @z44z _, @z43z _⟩
noncomputable def band_May [Fuel] : T_band_May := @band_May_ I_band_May
def SS_band_May (g : T_band_May) : Spec A := fun args => match args with | [.d (.sl 110 a1), .d (.str a2), .d (.int .i64 a3), .d (.int .i64 a4), .d (.int .i64 a5), .d (.int .i64 a6)] => fun k => g a1 a2 a3 a4 a5 a6 (fun z0 z1 => k (.tup [.d (.bool z0), .d (.int .i64 z1)]) [.undef, .undef, .undef, .undef, .undef, .undef]) | _ => fun _ => none
noncomputable def code_73 : Code := (Tryz.f73.body).getD .skip
noncomputable def E_band_May (g : C_band_May) : Env A := mkE [(49, SS_kit_IsMode g.kit_IsMode), (85, SS_z73z g.z73z), (86, SS_z62z g.z62z), (114, SS_z37z g.z37z), (115, SS_kit_IsKey g.kit_IsKey), (116, SS_band_used g.band_used), (117, SS_z44z g.z44z), (118, SS_z43z g.z43z)] [(15, [0]), (47, [1])] [] [] [] [] [] [] [] []
theorem sm_band_May (g : C_band_May) : Same (SS_band_May (@band_May_ g)) (abody (E_band_May g) Tryz.f73 code_73 2 [] [.asis, .asis] g.N) := by intro args; unfold SS_band_May; split; exact .inr fun R k => (by kernel_rfl); exact .inl fun R k => rfl
theorem ok_band_May [Fuel] : Ok 73 (SS_band_May (@band_May _)) := okF_of std (.cons ok_kit_IsMode (.cons ok_z73z (.cons ok_z62z (.cons ok_z37z (.cons ok_kit_IsKey (.cons ok_band_used (.cons ok_z44z (.cons ok_z43z .nil)))))))) ⟨rfl, rfl, by kernel_rfl, rfl, rfl, rfl⟩ (sm_band_May I_band_May) (cuts0 (fun _ => rfl) (by kernel_rfl)) Tryz.func73 (by kernel_rfl) (by kernel_rfl)
abbrev T_law_banded : Type 1 := {R : Type} → (Bool → Option R) → Option R
structure C_law_banded where
 N : Nat
 band_May : T_band_May
def law_banded_ (g : C_law_banded)  {R : Type} (k0 : Bool → Option R) : Option R :=
 (g.band_May [(⟨[99], 5, 8, [1], (⟨0, 9⟩ : G_Window)⟩ : G_Segment)] [99] 6 3 1 0 (fun r1 r2 => (bif (r2 == 0) then k0 r1 else k0 false)))
noncomputable def I_law_banded [Fuel] : C_law_banded := ⟨NN, @band_May _⟩
noncomputable def law_banded [Fuel] : T_law_banded := @law_banded_ I_law_banded
def SS_law_banded (g : T_law_banded) : Spec A := fun args => match args with | [] => fun k => g (fun z0 => k (.d (.bool z0)) []) | _ => fun _ => none
noncomputable def code_24 : Code := (Tryz.f24.body).getD .skip
noncomputable def E_law_banded (g : C_law_banded) : Env A := mkE [(73, SS_band_May g.band_May)] [(4, [0]), (7, [1])] [] [] [] [] [] [] [] []
theorem sm_law_banded (g : C_law_banded) : Same (SS_law_banded (@law_banded_ g)) (abody (E_law_banded g) Tryz.f24 code_24 2 [] [.asis] g.N) := by intro args; unfold SS_law_banded; split; exact .inr fun R k => (by kernel_rfl); exact .inl fun R k => rfl
theorem ok_law_banded [Fuel] : Ok 24 (SS_law_banded (@law_banded _)) := okF_of std (.cons ok_band_May .nil) ⟨rfl, rfl, by kernel_rfl, rfl, rfl, rfl⟩ (sm_law_banded I_law_banded) (cuts0 (fun _ => rfl) (by kernel_rfl)) Tryz.func24 (by kernel_rfl) (by kernel_rfl)
abbrev T_z45z : Type 1 := List G_Spot → {R : Type} → (Bool → Option R) → Option R
def z45z_L4 (g : Nat) : Nat → List G_Spot → Int → Int → {R : Type} → Option R → Option R
 | 0, _, _, _, _, _ => none
 | n + 1, v2, v3, v4, _, e0 => (bif (decide (v4 < v3)) then (get_ v2 v4 fun x6 => none) else e0)
def z45z_ (g : Nat) (a1 : List G_Spot) {R : Type} (k0 : Bool → Option R) : Option R :=
 (bif ((a1.length : Int) != 0) then k0 false else (z45z_L4 g g a1 (a1.length : Int) 0 (k0 true)))
noncomputable def z45z [Fuel] : T_z45z := @z45z_ NN
def SS_z45z (g : T_z45z) : Spec A := fun args => match args with | [.d (.sl 52 a1), .d .nsl] => fun k => g a1 (fun z0 => k (.d (.bool z0)) [.undef, .undef]) | _ => fun _ => none
def sh_z45z_L4 : SSt := mkSh 26 0 [(0, .sl 52), (1, .nsl), (12, .int .i64), (13, .int .i64)] []
def LP_z45z_L4 (g : Nat) (n : Nat) : LPT A := fun ps => match ps with | [.d (.sl 52 p1), .d (.int .i64 p2), .d (.int .i64 p3)] => fun K => z45z_L4 g n p1 p2 p3 (K (.exit 0) (mkSt 26 0 [] [])) | _ => fun _ => none
noncomputable def E_z45z (g : Nat) : Env A := mkE [] [] [(4, ⟨[0, 1, 12, 13], [], [], [], [], [], []⟩)] [(4, ⟨[], [], [], [], [], [], []⟩)] [(4, pieceOf sh_z45z_L4 (LP_z45z_L4 g g))] [] [] [] [] []
theorem ct_z45z [Fuel] : NatTab (E_z45z NN).C := ct_of (P := Tryz.prog) (T := T) .nil (by kernel_rfl)
noncomputable def cb_z45z_L4 : Code := sub [1, 1, 0, 1, 0, 0] code_22
theorem s_z45z_L4 (g : Nat) (n : Nat) : StepOk (E_z45z g) g cb_z45z_L4 sh_z45z_L4 (LP_z45z_L4 g) n := by intro ps; unfold LP_z45z_L4; split; exact .inr fun R K => (by kernel_rfl); exact .inl fun R K => rfl
theorem lf_z45z_L4 [Fuel] : LoopFine (E_z45z NN) NN cb_z45z_L4 := fine_loop sh_z45z_L4 (LP_z45z_L4 NN) (by kernel_rfl) ct_z45z (cuts0 (fun _ => rfl) (by kernel_rfl)) (fun ps R K => by unfold LP_z45z_L4; split <;> (try unfold z45z_L4) <;> rfl) (s_z45z_L4 NN)
theorem sm_z45z (g : Nat) : Same (SS_z45z (@z45z_ g)) (abody (E_z45z g) Tryz.f22 code_22 0 [] [.asis] g) := by intro args; unfold SS_z45z; split; exact .inr fun R k => (by kernel_rfl); exact .inl fun R k => rfl
theorem ok_z45z [Fuel] : Ok 22 (SS_z45z (@z45z _)) := okF_of std .nil ⟨rfl, rfl, by kernel_rfl, rfl, rfl, rfl⟩ (sm_z45z NN) (cutsL (fun _ => rfl) (.cons lf_z45z_L4 .nil) (by kernel_rfl)) Tryz.func22 (by kernel_rfl) (by kernel_rfl)
end Go.Am
