/- The functions of the program as Lean functions, each shown to be what the code computes, part 6. No condition: lemmas for the claim. -/
import Derived.Test.YtnkoiigdcbjenaaGreatDoorF0
import Derived.Test.YtnkoiigdcbjenaaGreatDoorFSh
import Derived.Test.YtnkoiigdcbjenaaGreatDoorF1
import Derived.Test.YtnkoiigdcbjenaaGreatDoorF3
import Derived.Test.YtnkoiigdcbjenaaGreatDoorF4
import Derived.Test.YtnkoiigdcbjenaaGreatDoorF5
set_option linter.unusedVariables false
set_option maxRecDepth 100000
namespace Go.Am
open Go Go.Proofs
abbrev T_Q_lineOf : Type 1 := List G_Member → List UInt8 → Int → {R : Type} → (G_Member → Option R) → Option R
def Q_lineOf_L3 (g : Nat) : Nat → List UInt8 → Int → List G_Member → Int → Int → G_Member → G_Member → {R : Type} → (G_Member → G_Member → Option R) → Option R
  | 0, _, _, _, _, _, _, _, _, _ => none
  | n + 1, v4, v5, v6, v7, v8, v9, v10, _, e0 => (bif (decide (v8 < v7)) then (get_ v6 v8 fun x12 => (bif (x12.f_Call == v4) then (bif (decide (x12.f_Day ≤ v5)) then Q_lineOf_L3 g n v4 v5 v6 v7 (w64 (v8 + 1)) v9 x12 e0 else Q_lineOf_L3 g n v4 v5 v6 v7 (w64 (v8 + 1)) v9 v10 e0) else Q_lineOf_L3 g n v4 v5 v6 v7 (w64 (v8 + 1)) v9 v10 e0)) else e0 v9 v10)
def Q_lineOf_ (g : Nat) (a1 : List G_Member) (a2 : List UInt8) (a3 : Int) {R : Type} (k0 : G_Member → Option R) : Option R :=
  (Q_lineOf_L3 g g a2 a3 a1 (a1.length : Int) 0 (⟨[], [], 0, []⟩ : G_Member) (⟨[], [], 0, []⟩ : G_Member) (fun e13 e14 => k0 e14))
noncomputable def Q_lineOf [Fuel] : T_Q_lineOf := @Q_lineOf_ NN
def SS_Q_lineOf (g : T_Q_lineOf) : Spec A := fun args => match args with | [.d (.sl 109 a1), .d (.str a2), .d (.int .i64 a3)] => fun k => g a1 a2 a3 (fun z0 => k (.agg [.d (.str z0.f_Call), .d (.str z0.f_Club), .d (.int .i64 z0.f_Day), .d (.str z0.f_Locator)]) [.undef, .undef, .undef]) | _ => fun _ => none
def sh_Q_lineOf_L3 : SSt := mkSh 29 3 [(1, .str), (2, .int .i64), (6, .ptr 0 0), (7, .ptr 1 0), (10, .sl 109), (11, .int .i64), (12, .int .i64)] [(0, .box [.str, .str, .int .i64, .str]), (1, .box [.str, .str, .int .i64, .str])]
def LP_Q_lineOf_L3 (g : Nat) (n : Nat) : LPT A := fun ps => match ps with | [.d (.str p1), .d (.int .i64 p2), .d (.sl 109 p3), .d (.int .i64 p4), .d (.int .i64 p5), .d (.str p6), .d (.str p7), .d (.int .i64 p8), .d (.str p9), .d (.str p10), .d (.str p11), .d (.int .i64 p12), .d (.str p13)] => fun K => Q_lineOf_L3 g n p1 p2 p3 p4 p5 ⟨p6, p7, p8, p9⟩ ⟨p10, p11, p12, p13⟩ (fun z0 z1 => K (.exit 0) (mkSt 29 3 [(6, .ptr 0 0), (7, .ptr 1 0)] [(0, some (.box [.d (.str z0.f_Call), .d (.str z0.f_Club), .d (.int .i64 z0.f_Day), .d (.str z0.f_Locator)])), (1, some (.box [.d (.str z1.f_Call), .d (.str z1.f_Club), .d (.int .i64 z1.f_Day), .d (.str z1.f_Locator)]))])) | _ => fun _ => none
noncomputable def code_76 : Code := (Tryz.f76.body).getD .skip
noncomputable def E_Q_lineOf (g : Nat) : Env A := mkE [] [(6, [0]), (7, [1]), (9, [2])] [(3, ⟨[1, 2, 6, 7, 10, 11, 12], [], [0, 1], []⟩)] [(3, ⟨[6, 7], [], [0, 1], []⟩)] [(3, pieceOf sh_Q_lineOf_L3 (LP_Q_lineOf_L3 g g))] [] [] [] [] []
theorem ct_Q_lineOf [Fuel] : NatTab (E_Q_lineOf NN).C := ct_of (P := Tryz.prog) (T := T) .nil (by kernel_rfl)
noncomputable def cb_Q_lineOf_L3 : Code := sub [1, 1, 0, 1, 0, 0] code_76
theorem s_Q_lineOf_L3 (g : Nat) (n : Nat) : StepOk (E_Q_lineOf g) g cb_Q_lineOf_L3 sh_Q_lineOf_L3 (LP_Q_lineOf_L3 g) n := by intro ps; unfold LP_Q_lineOf_L3; split; exact .inr fun R K => (by kernel_rfl); exact .inl fun R K => rfl
theorem lf_Q_lineOf_L3 [Fuel] : LoopFine (E_Q_lineOf NN) NN cb_Q_lineOf_L3 := fine_loop sh_Q_lineOf_L3 (LP_Q_lineOf_L3 NN) (by kernel_rfl) ct_Q_lineOf (cuts0 (fun _ => rfl) (by kernel_rfl)) (fun ps R K => by unfold LP_Q_lineOf_L3; split <;> (try unfold Q_lineOf_L3) <;> rfl) (s_Q_lineOf_L3 NN)
theorem sm_Q_lineOf (g : Nat) : Same (SS_Q_lineOf (@Q_lineOf_ g)) (abody (E_Q_lineOf g) Tryz.f76 code_76 3 [] [.asis] g) := by intro args; unfold SS_Q_lineOf; split; exact .inr fun R k => (by kernel_rfl); exact .inl fun R k => rfl
theorem ok_Q_lineOf [Fuel] : Ok 76 (SS_Q_lineOf (@Q_lineOf _)) := okF_of std .nil ⟨rfl, rfl, by kernel_rfl, rfl, rfl, rfl⟩ (sm_Q_lineOf NN) (cutsL (fun _ => rfl) (.cons lf_Q_lineOf_L3 .nil) (by kernel_rfl)) Tryz.func76 (by kernel_rfl) (by kernel_rfl)
abbrev T_Q_inside_1 : Type 1 := List UInt8 → G_Member → {R : Type} → (Bool → G_Member → Option R) → Option R
structure C_Q_inside_1 where
  N : Nat
  strings_HasPrefix : T_strings_HasPrefix
def Q_inside_1_ (g : C_Q_inside_1) (a1 : List UInt8) (a2 : G_Member) {R : Type} (k0 : Bool → G_Member → Option R) : Option R :=
  (g.strings_HasPrefix a2.f_Locator a1 (fun r3 => k0 r3 a2))
noncomputable def I_Q_inside_1 [Fuel] : C_Q_inside_1 := ⟨NN, @strings_HasPrefix _⟩
noncomputable def Q_inside_1 [Fuel] : T_Q_inside_1 := @Q_inside_1_ I_Q_inside_1
def SS_Q_inside_1 (g : T_Q_inside_1) : Spec A := fun args => match args with | [.d (.str a1), .box [.d (.str a2), .d (.str a3), .d (.int .i64 a4), .d (.str a5)]] => fun k => g a1 ⟨a2, a3, a4, a5⟩ (fun z0 z1 => k (.d (.bool z0)) [.undef, .box [.d (.str z1.f_Call), .d (.str z1.f_Club), .d (.int .i64 z1.f_Day), .d (.str z1.f_Locator)]]) | _ => fun _ => none
noncomputable def code_117 : Code := (Tryz.f117.body).getD .skip
noncomputable def E_Q_inside_1 (g : C_Q_inside_1) : Env A := mkE [(115, SS_strings_HasPrefix g.strings_HasPrefix)] [] [] [] [] [] [] [] [] [1]
theorem sm_Q_inside_1 (g : C_Q_inside_1) : Same (SS_Q_inside_1 (@Q_inside_1_ g)) (abody (E_Q_inside_1 g) Tryz.f117 code_117 1 [0] [.asis] g.N) := by intro args; unfold SS_Q_inside_1; split; exact .inr fun R k => (by kernel_rfl); exact .inl fun R k => rfl
theorem ok_Q_inside_1 [Fuel] : Ok 117 (SS_Q_inside_1 (@Q_inside_1 _)) := okF_of std (.cons ok_strings_HasPrefix .nil) ⟨rfl, rfl, by kernel_rfl, rfl, rfl, rfl⟩ (sm_Q_inside_1 I_Q_inside_1) (cuts0 (fun _ => rfl) (by kernel_rfl)) Tryz.func117 (by kernel_rfl) (by kernel_rfl)
abbrev T_slices_IndexFunc__string_Q_inside_1 : Type 1 := List (List UInt8) → G_Member → {R : Type} → (Int → G_Member → Option R) → Option R
structure C_slices_IndexFunc__string_Q_inside_1 where
  N : Nat
  Q_inside_1 : T_Q_inside_1
def slices_IndexFunc__string_Q_inside_1_L2 (g : C_slices_IndexFunc__string_Q_inside_1) : Nat → List (List UInt8) → Int → Int → G_Member → {R : Type} → (Int → G_Member → Option R) → (G_Member → Option R) → Option R
  | 0, _, _, _, _, _, _, _ => none
  | n + 1, v3, v4, v5, v6, _, e0, e1 => (bif (decide (v5 < v4)) then (get_ v3 v5 fun x10 => (g.Q_inside_1 x10 v6 (fun r11 r12 => (bif r11 then e0 v5 r12 else slices_IndexFunc__string_Q_inside_1_L2 g n v3 v4 (w64 (v5 + 1)) r12 e0 e1)))) else e1 v6)
def slices_IndexFunc__string_Q_inside_1_ (g : C_slices_IndexFunc__string_Q_inside_1) (a1 : List (List UInt8)) (a2 : G_Member) {R : Type} (k0 : Int → G_Member → Option R) : Option R :=
  (slices_IndexFunc__string_Q_inside_1_L2 g g.N a1 (a1.length : Int) 0 a2 (fun e13 e14 => k0 e13 e14) (fun e15 => k0 (-1) e15))
noncomputable def I_slices_IndexFunc__string_Q_inside_1 [Fuel] : C_slices_IndexFunc__string_Q_inside_1 := ⟨NN, @Q_inside_1 _⟩
noncomputable def slices_IndexFunc__string_Q_inside_1 [Fuel] : T_slices_IndexFunc__string_Q_inside_1 := @slices_IndexFunc__string_Q_inside_1_ I_slices_IndexFunc__string_Q_inside_1
def SS_slices_IndexFunc__string_Q_inside_1 (g : T_slices_IndexFunc__string_Q_inside_1) : Spec A := fun args => match args with | [.d (.sl 9 a1), .fn 117 [.box [.d (.str a2), .d (.str a3), .d (.int .i64 a4), .d (.str a5)]]] => fun k => g a1 ⟨a2, a3, a4, a5⟩ (fun z0 z1 => k (.d (.int .i64 z0)) [.undef, .fn 117 [.box [.d (.str z1.f_Call), .d (.str z1.f_Club), .d (.int .i64 z1.f_Day), .d (.str z1.f_Locator)]]]) | _ => fun _ => none
def sh_slices_IndexFunc__string_Q_inside_1_L2 : SSt := mkSh 19 1 [(0, .sl 9), (1, .fn 117 [.ptr 0 0]), (7, .int .i64), (8, .int .i64)] [(0, .box [.str, .str, .int .i64, .str])]
def LP_slices_IndexFunc__string_Q_inside_1_L2 (g : C_slices_IndexFunc__string_Q_inside_1) (n : Nat) : LPT A := fun ps => match ps with | [.d (.sl 9 p1), .d (.int .i64 p2), .d (.int .i64 p3), .d (.str p4), .d (.str p5), .d (.int .i64 p6), .d (.str p7)] => fun K => slices_IndexFunc__string_Q_inside_1_L2 g n p1 p2 p3 ⟨p4, p5, p6, p7⟩ (fun z0 z1 => K .ret (mkSt 19 1 [(1, .fn 117 [.ptr 0 0]), (4, .d (.int .i64 z0))] [(0, some (.box [.d (.str z1.f_Call), .d (.str z1.f_Club), .d (.int .i64 z1.f_Day), .d (.str z1.f_Locator)]))])) (fun z0 => K (.exit 0) (mkSt 19 1 [(1, .fn 117 [.ptr 0 0])] [(0, some (.box [.d (.str z0.f_Call), .d (.str z0.f_Club), .d (.int .i64 z0.f_Day), .d (.str z0.f_Locator)]))])) | _ => fun _ => none
noncomputable def E_slices_IndexFunc__string_Q_inside_1 (g : C_slices_IndexFunc__string_Q_inside_1) : Env A := mkE [(117, SS_Q_inside_1 g.Q_inside_1)] [] [(2, ⟨[0, 1, 7, 8], [], [0], []⟩)] [(2, ⟨[1, 4], [], [0], []⟩)] [(2, pieceOf sh_slices_IndexFunc__string_Q_inside_1_L2 (LP_slices_IndexFunc__string_Q_inside_1_L2 g g.N))] [] [] [] [] [1]
theorem ct_slices_IndexFunc__string_Q_inside_1 [Fuel] : NatTab (E_slices_IndexFunc__string_Q_inside_1 I_slices_IndexFunc__string_Q_inside_1).C := ct_of (P := Tryz.prog) (T := T) (.cons ok_Q_inside_1 .nil) (by kernel_rfl)
noncomputable def cb_slices_IndexFunc__string_Q_inside_1_L2 : Code := sub [1, 0, 1, 0, 0] code_151
theorem s_slices_IndexFunc__string_Q_inside_1_L2 (g : C_slices_IndexFunc__string_Q_inside_1) (n : Nat) : StepOk (E_slices_IndexFunc__string_Q_inside_1 g) g.N cb_slices_IndexFunc__string_Q_inside_1_L2 sh_slices_IndexFunc__string_Q_inside_1_L2 (LP_slices_IndexFunc__string_Q_inside_1_L2 g) n := by intro ps; unfold LP_slices_IndexFunc__string_Q_inside_1_L2; split; exact .inr fun R K => (by kernel_rfl); exact .inl fun R K => rfl
theorem lf_slices_IndexFunc__string_Q_inside_1_L2 [Fuel] : LoopFine (E_slices_IndexFunc__string_Q_inside_1 I_slices_IndexFunc__string_Q_inside_1) NN cb_slices_IndexFunc__string_Q_inside_1_L2 := fine_loop sh_slices_IndexFunc__string_Q_inside_1_L2 (LP_slices_IndexFunc__string_Q_inside_1_L2 I_slices_IndexFunc__string_Q_inside_1) (by kernel_rfl) ct_slices_IndexFunc__string_Q_inside_1 (cuts0 (fun _ => rfl) (by kernel_rfl)) (fun ps R K => by unfold LP_slices_IndexFunc__string_Q_inside_1_L2; split <;> (try unfold slices_IndexFunc__string_Q_inside_1_L2) <;> rfl) (s_slices_IndexFunc__string_Q_inside_1_L2 I_slices_IndexFunc__string_Q_inside_1)
theorem sm_slices_IndexFunc__string_Q_inside_1 (g : C_slices_IndexFunc__string_Q_inside_1) : Same (SS_slices_IndexFunc__string_Q_inside_1 (@slices_IndexFunc__string_Q_inside_1_ g)) (abody (E_slices_IndexFunc__string_Q_inside_1 g) Tryz.f151 code_151 1 [0] [.asis] g.N) := by intro args; unfold SS_slices_IndexFunc__string_Q_inside_1; split; exact .inr fun R k => (by kernel_rfl); exact .inl fun R k => rfl
theorem ok_slices_IndexFunc__string_Q_inside_1 [Fuel] : Ok 151 (SS_slices_IndexFunc__string_Q_inside_1 (@slices_IndexFunc__string_Q_inside_1 _)) := okF_of std (.cons ok_Q_inside_1 .nil) ⟨rfl, rfl, by kernel_rfl, rfl, rfl, rfl⟩ (sm_slices_IndexFunc__string_Q_inside_1 I_slices_IndexFunc__string_Q_inside_1) (cutsL (fun _ => rfl) (.cons lf_slices_IndexFunc__string_Q_inside_1_L2 .nil) (by kernel_rfl)) Tryz.func151 (by kernel_rfl) (by kernel_rfl)
abbrev T_slices_ContainsFunc__string_Q_inside_1 : Type 1 := List (List UInt8) → G_Member → {R : Type} → (Bool → G_Member → Option R) → Option R
structure C_slices_ContainsFunc__string_Q_inside_1 where
  N : Nat
  slices_IndexFunc__string_Q_inside_1 : T_slices_IndexFunc__string_Q_inside_1
def slices_ContainsFunc__string_Q_inside_1_ (g : C_slices_ContainsFunc__string_Q_inside_1) (a1 : List (List UInt8)) (a2 : G_Member) {R : Type} (k0 : Bool → G_Member → Option R) : Option R :=
  (g.slices_IndexFunc__string_Q_inside_1 a1 a2 (fun r3 r4 => k0 (decide (r3 ≥ 0)) r4))
noncomputable def I_slices_ContainsFunc__string_Q_inside_1 [Fuel] : C_slices_ContainsFunc__string_Q_inside_1 := ⟨NN, @slices_IndexFunc__string_Q_inside_1 _⟩
noncomputable def slices_ContainsFunc__string_Q_inside_1 [Fuel] : T_slices_ContainsFunc__string_Q_inside_1 := @slices_ContainsFunc__string_Q_inside_1_ I_slices_ContainsFunc__string_Q_inside_1
def SS_slices_ContainsFunc__string_Q_inside_1 (g : T_slices_ContainsFunc__string_Q_inside_1) : Spec A := fun args => match args with | [.d (.sl 9 a1), .fn 117 [.box [.d (.str a2), .d (.str a3), .d (.int .i64 a4), .d (.str a5)]]] => fun k => g a1 ⟨a2, a3, a4, a5⟩ (fun z0 z1 => k (.d (.bool z0)) [.undef, .fn 117 [.box [.d (.str z1.f_Call), .d (.str z1.f_Club), .d (.int .i64 z1.f_Day), .d (.str z1.f_Locator)]]]) | _ => fun _ => none
noncomputable def E_slices_ContainsFunc__string_Q_inside_1 (g : C_slices_ContainsFunc__string_Q_inside_1) : Env A := mkE [(151, SS_slices_IndexFunc__string_Q_inside_1 g.slices_IndexFunc__string_Q_inside_1)] [] [] [] [] [] [] [] [(151, 0)] [1]
theorem sm_slices_ContainsFunc__string_Q_inside_1 (g : C_slices_ContainsFunc__string_Q_inside_1) : Same (SS_slices_ContainsFunc__string_Q_inside_1 (@slices_ContainsFunc__string_Q_inside_1_ g)) (abody (E_slices_ContainsFunc__string_Q_inside_1 g) Tryz.f113 code_113 1 [0] [.asis] g.N) := by intro args; unfold SS_slices_ContainsFunc__string_Q_inside_1; split; exact .inr fun R k => (by kernel_rfl); exact .inl fun R k => rfl
theorem ok_slices_ContainsFunc__string_Q_inside_1 [Fuel] : Ok 113 (SS_slices_ContainsFunc__string_Q_inside_1 (@slices_ContainsFunc__string_Q_inside_1 _)) := okF_of std (.cons ok_slices_IndexFunc__string_Q_inside_1 .nil) ⟨rfl, rfl, by kernel_rfl, rfl, rfl, rfl⟩ (sm_slices_ContainsFunc__string_Q_inside_1 I_slices_ContainsFunc__string_Q_inside_1) (cuts0 (fun _ => rfl) (by kernel_rfl)) Tryz.func113 (by kernel_rfl) (by kernel_rfl)
abbrev T_Q_inside : Type 1 := List G_Club → G_Member → {R : Type} → (Bool → Option R) → Option R
structure C_Q_inside where
  N : Nat
  slices_ContainsFunc__string_Q_inside_1 : T_slices_ContainsFunc__string_Q_inside_1
def Q_inside_L2 (g : C_Q_inside) : Nat → List G_Club → Int → Int → G_Member → {R : Type} → (Bool → Option R) → Option R → Option R
  | 0, _, _, _, _, _, _, _ => none
  | n + 1, v3, v4, v5, v6, _, e0, e1 => (bif (decide (v5 < v4)) then (get_ v3 v5 fun x10 => (bif (x10.f_Key == v6.f_Club) then (g.slices_ContainsFunc__string_Q_inside_1 x10.f_Squares v6 (fun r11 r12 => (bif r11 then e0 true else Q_inside_L2 g n v3 v4 (w64 (v5 + 1)) r12 e0 e1))) else Q_inside_L2 g n v3 v4 (w64 (v5 + 1)) v6 e0 e1)) else e1)
def Q_inside_ (g : C_Q_inside) (a1 : List G_Club) (a2 : G_Member) {R : Type} (k0 : Bool → Option R) : Option R :=
  (Q_inside_L2 g g.N a1 (a1.length : Int) 0 a2 (fun e13 => k0 e13) (k0 false))
noncomputable def I_Q_inside [Fuel] : C_Q_inside := ⟨NN, @slices_ContainsFunc__string_Q_inside_1 _⟩
noncomputable def Q_inside [Fuel] : T_Q_inside := @Q_inside_ I_Q_inside
def SS_Q_inside (g : T_Q_inside) : Spec A := fun args => match args with | [.d (.sl 106 a1), .agg [.d (.str a2), .d (.str a3), .d (.int .i64 a4), .d (.str a5)]] => fun k => g a1 ⟨a2, a3, a4, a5⟩ (fun z0 => k (.d (.bool z0)) [.undef, .undef]) | _ => fun _ => none
def sh_Q_inside_L2 : SSt := mkSh 25 2 [(3, .ptr 0 0), (7, .sl 106), (8, .int .i64), (9, .int .i64)] [(0, .box [.str, .str, .int .i64, .str])]
def LP_Q_inside_L2 (g : C_Q_inside) (n : Nat) : LPT A := fun ps => match ps with | [.d (.sl 106 p1), .d (.int .i64 p2), .d (.int .i64 p3), .d (.str p4), .d (.str p5), .d (.int .i64 p6), .d (.str p7)] => fun K => Q_inside_L2 g n p1 p2 p3 ⟨p4, p5, p6, p7⟩ (fun z0 => K .ret (mkSt 25 2 [(4, .d (.bool z0))] [])) (K (.exit 0) (mkSt 25 2 [] [])) | _ => fun _ => none
noncomputable def code_77 : Code := (Tryz.f77.body).getD .skip
noncomputable def E_Q_inside (g : C_Q_inside) : Env A := mkE [(113, SS_slices_ContainsFunc__string_Q_inside_1 g.slices_ContainsFunc__string_Q_inside_1)] [(3, [0]), (6, [1])] [(2, ⟨[3, 7, 8, 9], [], [0], []⟩)] [(2, ⟨[4], [], [], []⟩)] [(2, pieceOf sh_Q_inside_L2 (LP_Q_inside_L2 g g.N))] [] [] [] [] []
theorem ct_Q_inside [Fuel] : NatTab (E_Q_inside I_Q_inside).C := ct_of (P := Tryz.prog) (T := T) (.cons ok_slices_ContainsFunc__string_Q_inside_1 .nil) (by kernel_rfl)
noncomputable def cb_Q_inside_L2 : Code := sub [1, 0, 1, 0, 0] code_77
theorem s_Q_inside_L2 (g : C_Q_inside) (n : Nat) : StepOk (E_Q_inside g) g.N cb_Q_inside_L2 sh_Q_inside_L2 (LP_Q_inside_L2 g) n := by intro ps; unfold LP_Q_inside_L2; split; exact .inr fun R K => (by kernel_rfl); exact .inl fun R K => rfl
theorem lf_Q_inside_L2 [Fuel] : LoopFine (E_Q_inside I_Q_inside) NN cb_Q_inside_L2 := fine_loop sh_Q_inside_L2 (LP_Q_inside_L2 I_Q_inside) (by kernel_rfl) ct_Q_inside (cuts0 (fun _ => rfl) (by kernel_rfl)) (fun ps R K => by unfold LP_Q_inside_L2; split <;> (try unfold Q_inside_L2) <;> rfl) (s_Q_inside_L2 I_Q_inside)
theorem sm_Q_inside (g : C_Q_inside) : Same (SS_Q_inside (@Q_inside_ g)) (abody (E_Q_inside g) Tryz.f77 code_77 2 [] [.asis] g.N) := by intro args; unfold SS_Q_inside; split; exact .inr fun R k => (by kernel_rfl); exact .inl fun R k => rfl
theorem ok_Q_inside [Fuel] : Ok 77 (SS_Q_inside (@Q_inside _)) := okF_of std (.cons ok_slices_ContainsFunc__string_Q_inside_1 .nil) ⟨rfl, rfl, by kernel_rfl, rfl, rfl, rfl⟩ (sm_Q_inside I_Q_inside) (cutsL (fun _ => rfl) (.cons lf_Q_inside_L2 .nil) (by kernel_rfl)) Tryz.func77 (by kernel_rfl) (by kernel_rfl)
abbrev T_Q_ClubFor : Type 1 := List G_Club → List G_Member → List UInt8 → Int → {R : Type} → (List UInt8 → Option R) → Option R
structure C_Q_ClubFor where
  N : Nat
  Q_BaseOf : T_Q_BaseOf
  Q_lineOf : T_Q_lineOf
  Q_inside : T_Q_inside
def Q_ClubFor_ (g : C_Q_ClubFor) (a1 : List G_Club) (a2 : List G_Member) (a3 : List UInt8) (a4 : Int) {R : Type} (k0 : List UInt8 → Option R) : Option R :=
  (g.Q_BaseOf a3 (fun r5 => (g.Q_lineOf a2 r5 a4 (fun r6 => (g.Q_inside a1 r6 (fun r7 => (bif (!r7) then k0 [] else k0 r6.f_Club)))))))
noncomputable def I_Q_ClubFor [Fuel] : C_Q_ClubFor := ⟨NN, @Q_BaseOf _, @Q_lineOf _, @Q_inside _⟩
noncomputable def Q_ClubFor [Fuel] : T_Q_ClubFor := @Q_ClubFor_ I_Q_ClubFor
def SS_Q_ClubFor (g : T_Q_ClubFor) : Spec A := fun args => match args with | [.d (.sl 106 a1), .d (.sl 109 a2), .d (.str a3), .d (.int .i64 a4)] => fun k => g a1 a2 a3 a4 (fun z0 => k (.d (.str z0)) [.undef, .undef, .undef, .undef]) | _ => fun _ => none
noncomputable def code_30 : Code := (Tryz.f30.body).getD .skip
noncomputable def E_Q_ClubFor (g : C_Q_ClubFor) : Env A := mkE [(71, SS_Q_BaseOf g.Q_BaseOf), (76, SS_Q_lineOf g.Q_lineOf), (77, SS_Q_inside g.Q_inside)] [(9, [0])] [] [] [] [] [] [] [] []
theorem sm_Q_ClubFor (g : C_Q_ClubFor) : Same (SS_Q_ClubFor (@Q_ClubFor_ g)) (abody (E_Q_ClubFor g) Tryz.f30 code_30 1 [] [.asis] g.N) := by intro args; unfold SS_Q_ClubFor; split; exact .inr fun R k => (by kernel_rfl); exact .inl fun R k => rfl
theorem ok_Q_ClubFor [Fuel] : Ok 30 (SS_Q_ClubFor (@Q_ClubFor _)) := okF_of std (.cons ok_Q_BaseOf (.cons ok_Q_lineOf (.cons ok_Q_inside .nil))) ⟨rfl, rfl, by kernel_rfl, rfl, rfl, rfl⟩ (sm_Q_ClubFor I_Q_ClubFor) (cuts0 (fun _ => rfl) (by kernel_rfl)) Tryz.func30 (by kernel_rfl) (by kernel_rfl)
abbrev T_slices_Index__string : Type 1 := List (List UInt8) → List UInt8 → {R : Type} → (Int → Option R) → Option R
def slices_Index__string_L2 (g : Nat) : Nat → List (List UInt8) → List UInt8 → Int → Int → {R : Type} → (Int → Option R) → Option R → Option R
  | 0, _, _, _, _, _, _, _ => none
  | n + 1, v3, v4, v5, v6, _, e0, e1 => (bif (decide (v6 < v5)) then (get_ v3 v6 fun x8 => (bif (v4 == x8) then e0 v6 else slices_Index__string_L2 g n v3 v4 v5 (w64 (v6 + 1)) e0 e1)) else e1)
def slices_Index__string_ (g : Nat) (a1 : List (List UInt8)) (a2 : List UInt8) {R : Type} (k0 : Int → Option R) : Option R :=
  (slices_Index__string_L2 g g a1 a2 (a1.length : Int) 0 (fun e9 => k0 e9) (k0 (-1)))
noncomputable def slices_Index__string [Fuel] : T_slices_Index__string := @slices_Index__string_ NN
def SS_slices_Index__string (g : T_slices_Index__string) : Spec A := fun args => match args with | [.d (.sl 9 a1), .d (.str a2)] => fun k => g a1 a2 (fun z0 => k (.d (.int .i64 z0)) [.undef, .undef]) | _ => fun _ => none
def sh_slices_Index__string_L2 : SSt := mkSh 19 0 [(0, .sl 9), (1, .str), (7, .int .i64), (8, .int .i64)] []
def LP_slices_Index__string_L2 (g : Nat) (n : Nat) : LPT A := fun ps => match ps with | [.d (.sl 9 p1), .d (.str p2), .d (.int .i64 p3), .d (.int .i64 p4)] => fun K => slices_Index__string_L2 g n p1 p2 p3 p4 (fun z0 => K .ret (mkSt 19 0 [(4, .d (.int .i64 z0))] [])) (K (.exit 0) (mkSt 19 0 [] [])) | _ => fun _ => none
noncomputable def code_118 : Code := (Tryz.f118.body).getD .skip
noncomputable def E_slices_Index__string (g : Nat) : Env A := mkE [] [] [(2, ⟨[0, 1, 7, 8], [], [], []⟩)] [(2, ⟨[4], [], [], []⟩)] [(2, pieceOf sh_slices_Index__string_L2 (LP_slices_Index__string_L2 g g))] [] [] [] [] []
theorem ct_slices_Index__string [Fuel] : NatTab (E_slices_Index__string NN).C := ct_of (P := Tryz.prog) (T := T) .nil (by kernel_rfl)
noncomputable def cb_slices_Index__string_L2 : Code := sub [1, 0, 1, 0, 0] code_118
theorem s_slices_Index__string_L2 (g : Nat) (n : Nat) : StepOk (E_slices_Index__string g) g cb_slices_Index__string_L2 sh_slices_Index__string_L2 (LP_slices_Index__string_L2 g) n := by intro ps; unfold LP_slices_Index__string_L2; split; exact .inr fun R K => (by kernel_rfl); exact .inl fun R K => rfl
theorem lf_slices_Index__string_L2 [Fuel] : LoopFine (E_slices_Index__string NN) NN cb_slices_Index__string_L2 := fine_loop sh_slices_Index__string_L2 (LP_slices_Index__string_L2 NN) (by kernel_rfl) ct_slices_Index__string (cuts0 (fun _ => rfl) (by kernel_rfl)) (fun ps R K => by unfold LP_slices_Index__string_L2; split <;> (try unfold slices_Index__string_L2) <;> rfl) (s_slices_Index__string_L2 NN)
theorem sm_slices_Index__string (g : Nat) : Same (SS_slices_Index__string (@slices_Index__string_ g)) (abody (E_slices_Index__string g) Tryz.f118 code_118 0 [] [.asis] g) := by intro args; unfold SS_slices_Index__string; split; exact .inr fun R k => (by kernel_rfl); exact .inl fun R k => rfl
theorem ok_slices_Index__string [Fuel] : Ok 118 (SS_slices_Index__string (@slices_Index__string _)) := okF_of std .nil ⟨rfl, rfl, by kernel_rfl, rfl, rfl, rfl⟩ (sm_slices_Index__string NN) (cutsL (fun _ => rfl) (.cons lf_slices_Index__string_L2 .nil) (by kernel_rfl)) Tryz.func118 (by kernel_rfl) (by kernel_rfl)
abbrev T_slices_Contains__string : Type 1 := List (List UInt8) → List UInt8 → {R : Type} → (Bool → Option R) → Option R
structure C_slices_Contains__string where
  N : Nat
  slices_Index__string : T_slices_Index__string
def slices_Contains__string_ (g : C_slices_Contains__string) (a1 : List (List UInt8)) (a2 : List UInt8) {R : Type} (k0 : Bool → Option R) : Option R :=
  (g.slices_Index__string a1 a2 (fun r3 => k0 (decide (r3 ≥ 0))))
noncomputable def I_slices_Contains__string [Fuel] : C_slices_Contains__string := ⟨NN, @slices_Index__string _⟩
noncomputable def slices_Contains__string [Fuel] : T_slices_Contains__string := @slices_Contains__string_ I_slices_Contains__string
def SS_slices_Contains__string (g : T_slices_Contains__string) : Spec A := fun args => match args with | [.d (.sl 9 a1), .d (.str a2)] => fun k => g a1 a2 (fun z0 => k (.d (.bool z0)) [.undef, .undef]) | _ => fun _ => none
noncomputable def code_78 : Code := (Tryz.f78.body).getD .skip
noncomputable def E_slices_Contains__string (g : C_slices_Contains__string) : Env A := mkE [(118, SS_slices_Index__string g.slices_Index__string)] [] [] [] [] [] [] [] [] []
theorem sm_slices_Contains__string (g : C_slices_Contains__string) : Same (SS_slices_Contains__string (@slices_Contains__string_ g)) (abody (E_slices_Contains__string g) Tryz.f78 code_78 0 [] [.asis] g.N) := by intro args; unfold SS_slices_Contains__string; split; exact .inr fun R k => (by kernel_rfl); exact .inl fun R k => rfl
theorem ok_slices_Contains__string [Fuel] : Ok 78 (SS_slices_Contains__string (@slices_Contains__string _)) := okF_of std (.cons ok_slices_Index__string .nil) ⟨rfl, rfl, by kernel_rfl, rfl, rfl, rfl⟩ (sm_slices_Contains__string I_slices_Contains__string) (cuts0 (fun _ => rfl) (by kernel_rfl)) Tryz.func78 (by kernel_rfl) (by kernel_rfl)
abbrev T_Q_OutsideOf : Type 1 := List G_Club → List G_Member → Int → {R : Type} → (List (List UInt8) → Option R) → Option R
structure C_Q_OutsideOf where
  N : Nat
  Q_lineOf : T_Q_lineOf
  Q_inside : T_Q_inside
  slices_Contains__string : T_slices_Contains__string
def Q_OutsideOf_L3 (g : C_Q_OutsideOf) : Nat → List G_Club → List G_Member → Int → List G_Member → Int → Int → List (List UInt8) → {R : Type} → (List (List UInt8) → Option R) → Option R
  | 0, _, _, _, _, _, _, _, _, _ => none
  | n + 1, v4, v5, v6, v7, v8, v9, v10, _, e0 => (bif (decide (v9 < v8)) then (get_ v7 v9 fun x15 => (g.Q_lineOf v5 x15.f_Call v6 (fun r16 => (bif (!(r16.f_Club == [])) then (g.Q_inside v4 r16 (fun r17 => (bif (!r17) then (g.slices_Contains__string v10 x15.f_Call (fun r18 => (bif (!r18) then (bif (decide ((v10.length + [x15.f_Call].length) * 16 ≤ roomBytes')) then Q_OutsideOf_L3 g n v4 v5 v6 v7 v8 (w64 (v9 + 1)) (v10 ++ [x15.f_Call]) e0 else none) else Q_OutsideOf_L3 g n v4 v5 v6 v7 v8 (w64 (v9 + 1)) v10 e0))) else Q_OutsideOf_L3 g n v4 v5 v6 v7 v8 (w64 (v9 + 1)) v10 e0))) else Q_OutsideOf_L3 g n v4 v5 v6 v7 v8 (w64 (v9 + 1)) v10 e0)))) else e0 v10)
def Q_OutsideOf_ (g : C_Q_OutsideOf) (a1 : List G_Club) (a2 : List G_Member) (a3 : Int) {R : Type} (k0 : List (List UInt8) → Option R) : Option R :=
  (Q_OutsideOf_L3 g g.N a1 a2 a3 a2 (a2.length : Int) 0 [] (fun e19 => k0 e19))
noncomputable def I_Q_OutsideOf [Fuel] : C_Q_OutsideOf := ⟨NN, @Q_lineOf _, @Q_inside _, @slices_Contains__string _⟩
noncomputable def Q_OutsideOf [Fuel] : T_Q_OutsideOf := @Q_OutsideOf_ I_Q_OutsideOf
def SS_Q_OutsideOf (g : T_Q_OutsideOf) : Spec A := fun args => match args with | [.d (.sl 106 a1), .d (.sl 109 a2), .d (.int .i64 a3)] => fun k => g a1 a2 a3 (fun z0 => k (.arr 9 z0) [.undef, .undef, .undef]) | _ => fun _ => none
def sh_Q_OutsideOf_L3 : SSt := mkSh 45 5 [(0, .sl 106), (1, .sl 109), (2, .int .i64), (7, .own 9 0), (11, .sl 109), (12, .int .i64), (13, .int .i64)] [(0, .row 9)]
def LP_Q_OutsideOf_L3 (g : C_Q_OutsideOf) (n : Nat) : LPT A := fun ps => match ps with | [.d (.sl 106 p1), .d (.sl 109 p2), .d (.int .i64 p3), .d (.sl 109 p4), .d (.int .i64 p5), .d (.int .i64 p6), .d (.sl 9 p7)] => fun K => Q_OutsideOf_L3 g n p1 p2 p3 p4 p5 p6 p7 (fun z0 => K (.exit 0) (mkSt 45 5 [(7, .own 9 0)] [(0, some (.row 9 z0))])) | _ => fun _ => none
noncomputable def code_31 : Code := (Tryz.f31.body).getD .skip
noncomputable def E_Q_OutsideOf (g : C_Q_OutsideOf) : Env A := mkE [(76, SS_Q_lineOf g.Q_lineOf), (77, SS_Q_inside g.Q_inside), (78, SS_slices_Contains__string g.slices_Contains__string)] [(9, [1]), (10, [2]), (41, [3]), (42, [4])] [(3, ⟨[0, 1, 2, 7, 11, 12, 13], [(7, 9, 0)], [], []⟩)] [(3, ⟨[7], [], [0], []⟩)] [(3, pieceOf sh_Q_OutsideOf_L3 (LP_Q_OutsideOf_L3 g g.N))] [] [] [] [] []
theorem ct_Q_OutsideOf [Fuel] : NatTab (E_Q_OutsideOf I_Q_OutsideOf).C := ct_of (P := Tryz.prog) (T := T) (.cons ok_Q_lineOf (.cons ok_Q_inside (.cons ok_slices_Contains__string .nil))) (by kernel_rfl)
noncomputable def cb_Q_OutsideOf_L3 : Code := sub [1, 1, 0, 1, 0, 0] code_31
theorem s_Q_OutsideOf_L3 (g : C_Q_OutsideOf) (n : Nat) : StepOk (E_Q_OutsideOf g) g.N cb_Q_OutsideOf_L3 sh_Q_OutsideOf_L3 (LP_Q_OutsideOf_L3 g) n := by intro ps; unfold LP_Q_OutsideOf_L3; split; exact .inr fun R K => (by kernel_rfl); exact .inl fun R K => rfl
theorem lf_Q_OutsideOf_L3 [Fuel] : LoopFine (E_Q_OutsideOf I_Q_OutsideOf) NN cb_Q_OutsideOf_L3 := fine_loop sh_Q_OutsideOf_L3 (LP_Q_OutsideOf_L3 I_Q_OutsideOf) (by kernel_rfl) ct_Q_OutsideOf (cuts0 (fun _ => rfl) (by kernel_rfl)) (fun ps R K => by unfold LP_Q_OutsideOf_L3; split <;> (try unfold Q_OutsideOf_L3) <;> rfl) (s_Q_OutsideOf_L3 I_Q_OutsideOf)
theorem sm_Q_OutsideOf (g : C_Q_OutsideOf) : Same (SS_Q_OutsideOf (@Q_OutsideOf_ g)) (abody (E_Q_OutsideOf g) Tryz.f31 code_31 5 [] [.arr 9] g.N) := by intro args; unfold SS_Q_OutsideOf; split; exact .inr fun R k => (by kernel_rfl); exact .inl fun R k => rfl
theorem ok_Q_OutsideOf [Fuel] : Ok 31 (SS_Q_OutsideOf (@Q_OutsideOf _)) := okF_of std (.cons ok_Q_lineOf (.cons ok_Q_inside (.cons ok_slices_Contains__string .nil))) ⟨rfl, rfl, by kernel_rfl, rfl, rfl, rfl⟩ (sm_Q_OutsideOf I_Q_OutsideOf) (cutsL (fun _ => rfl) (.cons lf_Q_OutsideOf_L3 .nil) (by kernel_rfl)) Tryz.func31 (by kernel_rfl) (by kernel_rfl)
abbrev T_slices_Equal__string : Type 1 := List (List UInt8) → List (List UInt8) → {R : Type} → (Bool → Option R) → Option R
def slices_Equal__string_L4 (g : Nat) : Nat → List (List UInt8) → List (List UInt8) → Int → Int → {R : Type} → (Bool → Option R) → Option R → Option R
  | 0, _, _, _, _, _, _, _ => none
  | n + 1, v3, v4, v5, v6, _, e0, e1 => (bif (decide (v6 < v5)) then (get_ v3 v6 fun x9 => (get_ v4 v6 fun x10 => (bif (!(x9 == x10)) then e0 false else slices_Equal__string_L4 g n v3 v4 v5 (w64 (v6 + 1)) e0 e1))) else e1)
def slices_Equal__string_ (g : Nat) (a1 a2 : List (List UInt8)) {R : Type} (k0 : Bool → Option R) : Option R :=
  (bif ((a1.length : Int) != (a2.length : Int)) then k0 false else (slices_Equal__string_L4 g g a1 a2 (a1.length : Int) 0 (fun e11 => k0 e11) (k0 true)))
noncomputable def slices_Equal__string [Fuel] : T_slices_Equal__string := @slices_Equal__string_ NN
def p_slices_Equal__string (args : List (IV A)) : Bool := match args with | [.d (.sl 9 _), .d (.sl 9 _)] => true | _ => false
def SS_slices_Equal__string (g : T_slices_Equal__string) : Spec A := fun args => match args with | [.d (.sl 9 a1), .d (.sl 9 a2)] => fun k => g a1 a2 (fun z0 => k (.d (.bool z0)) [.undef, .undef]) | _ => fun _ => none
def sh_slices_Equal__string_L4 : SSt := mkSh 26 0 [(0, .sl 9), (1, .sl 9), (12, .int .i64), (13, .int .i64)] []
def LP_slices_Equal__string_L4 (g : Nat) (n : Nat) : LPT A := fun ps => match ps with | [.d (.sl 9 p1), .d (.sl 9 p2), .d (.int .i64 p3), .d (.int .i64 p4)] => fun K => slices_Equal__string_L4 g n p1 p2 p3 p4 (fun z0 => K .ret (mkSt 26 0 [(4, .d (.bool z0))] [])) (K (.exit 0) (mkSt 26 0 [] [])) | _ => fun _ => none
noncomputable def code_35 : Code := (Tryz.f35.body).getD .skip
noncomputable def E_slices_Equal__string (g : Nat) : Env A := mkE [] [] [(4, ⟨[0, 1, 12, 13], [], [], []⟩)] [(4, ⟨[4], [], [], []⟩)] [(4, pieceOf sh_slices_Equal__string_L4 (LP_slices_Equal__string_L4 g g))] [] [] [] [] []
theorem ct_slices_Equal__string [Fuel] : NatTab (E_slices_Equal__string NN).C := ct_of (P := Tryz.prog) (T := T) .nil (by kernel_rfl)
noncomputable def cb_slices_Equal__string_L4 : Code := sub [1, 1, 0, 1, 0, 0] code_35
theorem s_slices_Equal__string_L4 (g : Nat) (n : Nat) : StepOk (E_slices_Equal__string g) g cb_slices_Equal__string_L4 sh_slices_Equal__string_L4 (LP_slices_Equal__string_L4 g) n := by intro ps; unfold LP_slices_Equal__string_L4; split; exact .inr fun R K => (by kernel_rfl); exact .inl fun R K => rfl
theorem lf_slices_Equal__string_L4 [Fuel] : LoopFine (E_slices_Equal__string NN) NN cb_slices_Equal__string_L4 := fine_loop sh_slices_Equal__string_L4 (LP_slices_Equal__string_L4 NN) (by kernel_rfl) ct_slices_Equal__string (cuts0 (fun _ => rfl) (by kernel_rfl)) (fun ps R K => by unfold LP_slices_Equal__string_L4; split <;> (try unfold slices_Equal__string_L4) <;> rfl) (s_slices_Equal__string_L4 NN)
theorem sm_slices_Equal__string (g : Nat) : Same (SS_slices_Equal__string (@slices_Equal__string_ g)) (abody (E_slices_Equal__string g) Tryz.f35 code_35 0 [] [.asis] g) := by intro args; unfold SS_slices_Equal__string; split; exact .inr fun R k => (by kernel_rfl); exact .inl fun R k => rfl
theorem ok_slices_Equal__string [Fuel] : Ok 35 (SS_slices_Equal__string (@slices_Equal__string _)) := okF_of std .nil ⟨rfl, rfl, by kernel_rfl, rfl, rfl, rfl⟩ (sm_slices_Equal__string NN) (cutsL (fun _ => rfl) (.cons lf_slices_Equal__string_L4 .nil) (by kernel_rfl)) Tryz.func35 (by kernel_rfl) (by kernel_rfl)
abbrev T_club_CheckEntrants : Type 1 := List G_Entrant → {R : Type} → (Int → Option R) → Option R
structure C_club_CheckEntrants where
  N : Nat
  call_Is : T_call_Is
  kit_IsKey : T_kit_IsKey
  strings_Compare : T_strings_Compare
  kit_Outside : T_kit_Outside
  cmp_Or__int : T_cmp_Or__int
  club_isLocator : T_club_isLocator
def club_CheckEntrants_L4 (g : C_club_CheckEntrants) : Nat → List G_Entrant → List G_Entrant → Int → Int → {R : Type} → (Int → Option R) → Option R → Option R
  | 0, _, _, _, _, _, _, _ => none
  | n + 1, v2, v3, v4, v5, _, e0, e1 => (bif (decide (v5 < v4)) then (get_ v3 v5 fun x21 => (g.call_Is x21.f_Call (fun r22 => (bif (!r22) then e0 3 else (g.kit_IsKey x21.f_Category (fun r23 => (bif (!r23) then e0 5 else (g.kit_Outside x21.f_Points 0 1000000000000 (fun r24 => (bif r24 then e0 1 else (bif (!(x21.f_Locator == [])) then (g.club_isLocator x21.f_Locator (fun r25 => (bif (!r25) then e0 3 else (bif (decide (v5 > 0)) then (get_ v2 (w64 (v5 - 1)) fun x26 => (get_ v2 (w64 (v5 - 1)) fun x27 => (g.strings_Compare x26.f_Category x21.f_Category (fun r28 => (g.strings_Compare x27.f_Call x21.f_Call (fun r29 => (g.cmp_Or__int [r28, r29] (fun r30 => (bif (decide (r30 ≥ 0)) then e0 7 else club_CheckEntrants_L4 g n v2 v3 v4 (w64 (v5 + 1)) e0 e1))))))))) else club_CheckEntrants_L4 g n v2 v3 v4 (w64 (v5 + 1)) e0 e1)))) else (bif (decide (v5 > 0)) then (get_ v2 (w64 (v5 - 1)) fun x31 => (get_ v2 (w64 (v5 - 1)) fun x32 => (g.strings_Compare x31.f_Category x21.f_Category (fun r33 => (g.strings_Compare x32.f_Call x21.f_Call (fun r34 => (g.cmp_Or__int [r33, r34] (fun r35 => (bif (decide (r35 ≥ 0)) then e0 7 else club_CheckEntrants_L4 g n v2 v3 v4 (w64 (v5 + 1)) e0 e1))))))))) else club_CheckEntrants_L4 g n v2 v3 v4 (w64 (v5 + 1)) e0 e1)))))))))))) else e1)
def club_CheckEntrants_ (g : C_club_CheckEntrants) (a1 : List G_Entrant) {R : Type} (k0 : Int → Option R) : Option R :=
  (bif (decide ((a1.length : Int) > 500)) then k0 2 else (club_CheckEntrants_L4 g g.N a1 a1 (a1.length : Int) 0 (fun e36 => k0 e36) (k0 0)))
noncomputable def I_club_CheckEntrants [Fuel] : C_club_CheckEntrants := ⟨NN, @call_Is _, @kit_IsKey _, @strings_Compare _, @kit_Outside _, @cmp_Or__int _, @club_isLocator _⟩
noncomputable def club_CheckEntrants [Fuel] : T_club_CheckEntrants := @club_CheckEntrants_ I_club_CheckEntrants
def SS_club_CheckEntrants (g : T_club_CheckEntrants) : Spec A := fun args => match args with | [.d (.sl 100 a1)] => fun k => g a1 (fun z0 => k (.d (.int .i64 z0)) [.undef]) | _ => fun _ => none
def sh_club_CheckEntrants_L4 : SSt := mkSh 66 2 [(0, .sl 100), (8, .sl 100), (9, .int .i64), (10, .int .i64)] []
def LP_club_CheckEntrants_L4 (g : C_club_CheckEntrants) (n : Nat) : LPT A := fun ps => match ps with | [.d (.sl 100 p1), .d (.sl 100 p2), .d (.int .i64 p3), .d (.int .i64 p4)] => fun K => club_CheckEntrants_L4 g n p1 p2 p3 p4 (fun z0 => K .ret (mkSt 66 2 [(2, .d (.int .i64 z0))] [])) (K (.exit 0) (mkSt 66 2 [] [])) | _ => fun _ => none
noncomputable def code_106 : Code := (Tryz.f106.body).getD .skip
noncomputable def E_club_CheckEntrants (g : C_club_CheckEntrants) : Env A := mkE [(63, SS_call_Is g.call_Is), (79, SS_kit_IsKey g.kit_IsKey), (90, SS_strings_Compare g.strings_Compare), (91, SS_kit_Outside g.kit_Outside), (92, SS_cmp_Or__int g.cmp_Or__int), (123, SS_club_isLocator g.club_isLocator)] [(4, [0]), (61, [1])] [(4, ⟨[0, 8, 9, 10], [], [], []⟩)] [(4, ⟨[2], [], [], []⟩)] [(4, pieceOf sh_club_CheckEntrants_L4 (LP_club_CheckEntrants_L4 g g.N))] [] [] [] [] []
theorem ct_club_CheckEntrants [Fuel] : NatTab (E_club_CheckEntrants I_club_CheckEntrants).C := ct_of (P := Tryz.prog) (T := T) (.cons ok_call_Is (.cons ok_kit_IsKey (.cons ok_strings_Compare (.cons ok_kit_Outside (.cons ok_cmp_Or__int (.cons ok_club_isLocator .nil)))))) (by kernel_rfl)
noncomputable def cb_club_CheckEntrants_L4 : Code := sub [1, 1, 0, 1, 0, 0] code_106
theorem s_club_CheckEntrants_L4 (g : C_club_CheckEntrants) (n : Nat) : StepOk (E_club_CheckEntrants g) g.N cb_club_CheckEntrants_L4 sh_club_CheckEntrants_L4 (LP_club_CheckEntrants_L4 g) n := by intro ps; unfold LP_club_CheckEntrants_L4; split; exact .inr fun R K => (by kernel_rfl); exact .inl fun R K => rfl
theorem lf_club_CheckEntrants_L4 [Fuel] : LoopFine (E_club_CheckEntrants I_club_CheckEntrants) NN cb_club_CheckEntrants_L4 := fine_loop sh_club_CheckEntrants_L4 (LP_club_CheckEntrants_L4 I_club_CheckEntrants) (by kernel_rfl) ct_club_CheckEntrants (cuts0 (fun _ => rfl) (by kernel_rfl)) (fun ps R K => by unfold LP_club_CheckEntrants_L4; split <;> (try unfold club_CheckEntrants_L4) <;> rfl) (s_club_CheckEntrants_L4 I_club_CheckEntrants)
theorem sm_club_CheckEntrants (g : C_club_CheckEntrants) : Same (SS_club_CheckEntrants (@club_CheckEntrants_ g)) (abody (E_club_CheckEntrants g) Tryz.f106 code_106 2 [] [.asis] g.N) := by intro args; unfold SS_club_CheckEntrants; split; exact .inr fun R k => (by kernel_rfl); exact .inl fun R k => rfl
theorem ok_club_CheckEntrants [Fuel] : Ok 106 (SS_club_CheckEntrants (@club_CheckEntrants _)) := okF_of std (.cons ok_call_Is (.cons ok_kit_IsKey (.cons ok_strings_Compare (.cons ok_kit_Outside (.cons ok_cmp_Or__int (.cons ok_club_isLocator .nil)))))) ⟨rfl, rfl, by kernel_rfl, rfl, rfl, rfl⟩ (sm_club_CheckEntrants I_club_CheckEntrants) (cutsL (fun _ => rfl) (.cons lf_club_CheckEntrants_L4 .nil) (by kernel_rfl)) Tryz.func106 (by kernel_rfl) (by kernel_rfl)
abbrev T_club_ranked_1 : Type 1 := G_Place → G_Place → {R : Type} → (Int → Option R) → Option R
structure C_club_ranked_1 where
  N : Nat
  strings_Compare : T_strings_Compare
  cmp_Or__int : T_cmp_Or__int
  cmp_Compare__int : T_cmp_Compare__int
def club_ranked_1_ (g : C_club_ranked_1) (a1 a2 : G_Place) {R : Type} (k0 : Int → Option R) : Option R :=
  (g.cmp_Compare__int a2.f_Points a1.f_Points (fun r3 => (g.strings_Compare a1.f_Key a2.f_Key (fun r4 => (g.cmp_Or__int [r3, r4] (fun r5 => k0 r5))))))
noncomputable def I_club_ranked_1 [Fuel] : C_club_ranked_1 := ⟨NN, @strings_Compare _, @cmp_Or__int _, @cmp_Compare__int _⟩
noncomputable def club_ranked_1 [Fuel] : T_club_ranked_1 := @club_ranked_1_ I_club_ranked_1
def SS_club_ranked_1 (g : T_club_ranked_1) : Spec A := fun args => match args with | [.agg [.d (.int .i64 a1), .d (.int .i64 a2), .d (.str a3)], .agg [.d (.int .i64 a4), .d (.int .i64 a5), .d (.str a6)]] => fun k => g ⟨a1, a2, a3⟩ ⟨a4, a5, a6⟩ (fun z0 => k (.d (.int .i64 z0)) [.undef, .undef]) | _ => fun _ => none
noncomputable def code_143 : Code := (Tryz.f143.body).getD .skip
noncomputable def E_club_ranked_1 (g : C_club_ranked_1) : Env A := mkE [(90, SS_strings_Compare g.strings_Compare), (92, SS_cmp_Or__int g.cmp_Or__int), (93, SS_cmp_Compare__int g.cmp_Compare__int)] [(2, [0]), (3, [1]), (15, [2])] [] [] [] [] [] [] [] []
theorem sm_club_ranked_1 (g : C_club_ranked_1) : Same (SS_club_ranked_1 (@club_ranked_1_ g)) (abody (E_club_ranked_1 g) Tryz.f143 code_143 3 [] [.asis] g.N) := by intro args; unfold SS_club_ranked_1; split; exact .inr fun R k => (by kernel_rfl); exact .inl fun R k => rfl
theorem ok_club_ranked_1 [Fuel] : Ok 143 (SS_club_ranked_1 (@club_ranked_1 _)) := okF_of std (.cons ok_strings_Compare (.cons ok_cmp_Or__int (.cons ok_cmp_Compare__int .nil))) ⟨rfl, rfl, by kernel_rfl, rfl, rfl, rfl⟩ (sm_club_ranked_1 I_club_ranked_1) (cuts0 (fun _ => rfl) (by kernel_rfl)) Tryz.func143 (by kernel_rfl) (by kernel_rfl)
noncomputable def Ed_club_ranked_1 (g : C_club_ranked_1) : Env A := mkED [(90, SS_strings_Compare g.strings_Compare), (92, SS_cmp_Or__int g.cmp_Or__int), (93, SS_cmp_Compare__int g.cmp_Compare__int)] [(2, [0]), (3, [1]), (15, [2])] [] [] [] [] [] [] [] []
theorem smd_club_ranked_1 (g : C_club_ranked_1) : Same (SS_club_ranked_1 (@club_ranked_1_ g)) (abody (Ed_club_ranked_1 g) Tryz.f143 code_143 3 [] [.asis] g.N) := by intro args; unfold SS_club_ranked_1; split; exact .inr fun R k => (by kernel_rfl); exact .inl fun R k => rfl
theorem okd_club_ranked_1 [Fuel] : OkD 143 (SS_club_ranked_1 (@club_ranked_1 _)) := okF_of stdD (.cons okd_strings_Compare (.cons okd_cmp_Or__int (.cons okd_cmp_Compare__int .nil))) ⟨rfl, rfl, by kernel_rfl, rfl, rfl, rfl⟩ (smd_club_ranked_1 I_club_ranked_1) (cuts0 (fun _ => rfl) (by kernel_rfl)) Tryz.func143 (by kernel_rfl) (by kernel_rfl)
abbrev T_slices_SortFunc__Place_club_ranked_1 : Type 1 := List G_Place → {R : Type} → (List G_Place → Option R) → Option R
noncomputable def slices_SortFunc__Place_club_ranked_1 [Fuel] : T_slices_SortFunc__Place_club_ranked_1 := @X_sortf G_Place (@club_ranked_1 _)
def SS_slices_SortFunc__Place_club_ranked_1 (g : T_slices_SortFunc__Place_club_ranked_1) : Spec A := fun args => match args with | [.arr 103 a1, .fn 143 []] => fun k => g a1 (fun z => k (.tup []) [.arr 103 z, .fn 143 []]) | _ => fun _ => none
theorem h1_slices_SortFunc__Place_club_ranked_1 [Fuel] (xs : List (A 103)) (R : Type) (k : IV A → List (IV A) → Option R) : SS_slices_SortFunc__Place_club_ranked_1 (@slices_SortFunc__Place_club_ranked_1 _) [.arr 103 xs, .fn 143 []] k = X_sortf (α := A 103) (@club_ranked_1 _) xs (fun z => k (.tup []) [.arr 103 z, .fn 143 []]) := by kernel_rfl
theorem h2_slices_SortFunc__Place_club_ranked_1 [Fuel] (args : List (IV A)) (R : Type) (k : IV A → List (IV A) → Option R) (h : ∀ xs : List (A 103), args ≠ [.arr 103 xs, .fn 143 []]) : SS_slices_SortFunc__Place_club_ranked_1 (@slices_SortFunc__Place_club_ranked_1 _) args k = none := by unfold SS_slices_SortFunc__Place_club_ranked_1; split; exact absurd rfl (h _); rfl
theorem hc_slices_SortFunc__Place_club_ranked_1 [Fuel] (x y : A 103) (R : Type) (k : Int → Option R) : callOf T (SS_club_ranked_1 (@club_ranked_1 _)) 103 x y k = @club_ranked_1 _ x y R k := by kernel_rfl
theorem hs_slices_SortFunc__Place_club_ranked_1 (x : G_Place) : (enc_e103 x).all scal = true := rfl
theorem ok_slices_SortFunc__Place_club_ranked_1 [Fuel] : Ok 142 (SS_slices_SortFunc__Place_club_ranked_1 (@slices_SortFunc__Place_club_ranked_1 _)) := ⟨sortf_sound (tyOk Tryz.prog) (e := 103) Tryz.sortf142 Tryz.isAgg103 Tryz.sizeOf103 (fun x d hd => List.all_eq_true.1 (hs_slices_SortFunc__Place_club_ranked_1 x) d hd) hc_slices_SortFunc__Place_club_ranked_1 okd_club_ranked_1.fs okd_club_ranked_1.en h1_slices_SortFunc__Place_club_ranked_1 h2_slices_SortFunc__Place_club_ranked_1, sortf_na (e := 103) h1_slices_SortFunc__Place_club_ranked_1 h2_slices_SortFunc__Place_club_ranked_1, enters_of (fn := Tryz.f142) Tryz.func142 (by kernel_rfl) (by kernel_rfl)⟩
end Go.Am
