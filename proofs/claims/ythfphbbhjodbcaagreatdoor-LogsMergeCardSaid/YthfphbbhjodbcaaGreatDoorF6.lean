/- The functions of the program as Lean functions, each shown to be what the code computes, part 6. No condition: lemmas for the claim. -/
import Derived.Test.YthfphbbhjodbcaaGreatDoorF0
import Derived.Test.YthfphbbhjodbcaaGreatDoorFSh
import Derived.Test.YthfphbbhjodbcaaGreatDoorF2
import Derived.Test.YthfphbbhjodbcaaGreatDoorF3
set_option linter.unusedVariables false
set_option maxRecDepth 100000
namespace Go.Am
open Go Go.Proofs
abbrev T_slices_Index__Contact : Type 1 := List G_Contact → G_Contact → {R : Type} → (Int → Option R) → Option R
def slices_Index__Contact_L2 (g : Nat) : Nat → List G_Contact → Int → Int → G_Contact → {R : Type} → (Int → Option R) → Option R → Option R
  | 0, _, _, _, _, _, _, _ => none
  | n + 1, v3, v4, v5, v6, _, e0, e1 => (bif (decide (v5 < v4)) then (get_ v3 v5 fun x8 => (bif (eq_G_Contact v6 x8) then e0 v5 else slices_Index__Contact_L2 g n v3 v4 (w64 (v5 + 1)) v6 e0 e1)) else e1)
def slices_Index__Contact_ (g : Nat) (a1 : List G_Contact) (a2 : G_Contact) {R : Type} (k0 : Int → Option R) : Option R :=
  (slices_Index__Contact_L2 g g a1 (a1.length : Int) 0 a2 (fun e9 => k0 e9) (k0 (-1)))
def slices_Index__Contact [Fuel] : T_slices_Index__Contact := @slices_Index__Contact_ NN
def SS_slices_Index__Contact (g : T_slices_Index__Contact) : Spec A := fun args => match args with | [.d (.sl 58 a1), .agg [.d (.int .i64 a2), .d (.int .i64 a3), .d (.str a4), .d (.str a5), .d (.int .i64 a6), .d (.int .i64 a7), .d (.str a8), .d (.str a9)]] => fun k => g a1 ⟨a2, a3, a4, a5, a6, a7, a8, a9⟩ (fun z0 => k (.d (.int .i64 z0)) [.undef, .undef]) | _ => fun _ => none
def sh_slices_Index__Contact_L2 : SSt := mkSh 19 1 [(0, .sl 58), (3, .ptr 0 0), (7, .int .i64), (8, .int .i64)] [(0, .box [.int .i64, .int .i64, .str, .str, .int .i64, .int .i64, .str, .str])]
def LP_slices_Index__Contact_L2 (g : Nat) (n : Nat) : LPT A := fun ps => match ps with | [.d (.sl 58 p1), .d (.int .i64 p2), .d (.int .i64 p3), .d (.int .i64 p4), .d (.int .i64 p5), .d (.str p6), .d (.str p7), .d (.int .i64 p8), .d (.int .i64 p9), .d (.str p10), .d (.str p11)] => fun K => slices_Index__Contact_L2 g n p1 p2 p3 ⟨p4, p5, p6, p7, p8, p9, p10, p11⟩ (fun z0 => K .ret (mkSt 19 1 [(4, .d (.int .i64 z0))] [])) (K (.exit 0) (mkSt 19 1 [] [])) | _ => fun _ => none
noncomputable def code_81 : Code := (Tryz.f81.body).getD .skip
noncomputable def E_slices_Index__Contact (g : Nat) : Env A := mkE [] [(3, [0])] [(2, ⟨[0, 3, 7, 8], [], [0], []⟩)] [(2, ⟨[4], [], [], []⟩)] [(2, pieceOf sh_slices_Index__Contact_L2 (LP_slices_Index__Contact_L2 g g))] [] [] [] [] []
theorem ct_slices_Index__Contact [Fuel] : NatTab (E_slices_Index__Contact NN).C := ct_of (P := Tryz.prog) (T := T) .nil (by kernel_rfl)
noncomputable def cb_slices_Index__Contact_L2 : Code := sub [1, 0, 1, 0, 0] code_81
theorem s_slices_Index__Contact_L2 (g : Nat) (n : Nat) : StepOk (E_slices_Index__Contact g) g cb_slices_Index__Contact_L2 sh_slices_Index__Contact_L2 (LP_slices_Index__Contact_L2 g) n := by intro ps; unfold LP_slices_Index__Contact_L2; split; exact .inr fun R K => (by kernel_rfl); exact .inl fun R K => rfl
theorem lf_slices_Index__Contact_L2 [Fuel] : LoopFine (E_slices_Index__Contact NN) NN cb_slices_Index__Contact_L2 := fine_loop sh_slices_Index__Contact_L2 (LP_slices_Index__Contact_L2 NN) (by kernel_rfl) ct_slices_Index__Contact (cuts0 (fun _ => rfl) (by kernel_rfl)) (fun ps R K => by unfold LP_slices_Index__Contact_L2; split <;> (try unfold slices_Index__Contact_L2) <;> rfl) (s_slices_Index__Contact_L2 NN)
theorem sm_slices_Index__Contact (g : Nat) : Same (SS_slices_Index__Contact (@slices_Index__Contact_ g)) (abody (E_slices_Index__Contact g) Tryz.f81 code_81 1 [] [.asis] g) := by intro args; unfold SS_slices_Index__Contact; split; exact .inr fun R k => (by kernel_rfl); exact .inl fun R k => rfl
theorem ok_slices_Index__Contact [Fuel] : Ok 81 (SS_slices_Index__Contact (@slices_Index__Contact _)) := okF_of std .nil ⟨rfl, rfl, by kernel_rfl, rfl, rfl⟩ (sm_slices_Index__Contact NN) (cutsL (fun _ => rfl) (.cons lf_slices_Index__Contact_L2 .nil) (by kernel_rfl)) Tryz.func81 (by kernel_rfl) (by kernel_rfl)
abbrev T_slices_Contains__Contact : Type 1 := List G_Contact → G_Contact → {R : Type} → (Bool → Option R) → Option R
structure C_slices_Contains__Contact where
  N : Nat
  slices_Index__Contact : T_slices_Index__Contact
def slices_Contains__Contact_ (g : C_slices_Contains__Contact) (a1 : List G_Contact) (a2 : G_Contact) {R : Type} (k0 : Bool → Option R) : Option R :=
  (g.slices_Index__Contact a1 a2 (fun r3 => k0 (decide (r3 ≥ 0))))
def I_slices_Contains__Contact [Fuel] : C_slices_Contains__Contact := ⟨NN, @slices_Index__Contact _⟩
def slices_Contains__Contact [Fuel] : T_slices_Contains__Contact := @slices_Contains__Contact_ I_slices_Contains__Contact
def SS_slices_Contains__Contact (g : T_slices_Contains__Contact) : Spec A := fun args => match args with | [.d (.sl 58 a1), .agg [.d (.int .i64 a2), .d (.int .i64 a3), .d (.str a4), .d (.str a5), .d (.int .i64 a6), .d (.int .i64 a7), .d (.str a8), .d (.str a9)]] => fun k => g a1 ⟨a2, a3, a4, a5, a6, a7, a8, a9⟩ (fun z0 => k (.d (.bool z0)) [.undef, .undef]) | _ => fun _ => none
noncomputable def code_63 : Code := (Tryz.f63.body).getD .skip
noncomputable def E_slices_Contains__Contact (g : C_slices_Contains__Contact) : Env A := mkE [(81, SS_slices_Index__Contact g.slices_Index__Contact)] [(3, [0])] [] [] [] [] [] [] [] []
theorem sm_slices_Contains__Contact (g : C_slices_Contains__Contact) : Same (SS_slices_Contains__Contact (@slices_Contains__Contact_ g)) (abody (E_slices_Contains__Contact g) Tryz.f63 code_63 1 [] [.asis] g.N) := by intro args; unfold SS_slices_Contains__Contact; split; exact .inr fun R k => (by kernel_rfl); exact .inl fun R k => rfl
theorem ok_slices_Contains__Contact [Fuel] : Ok 63 (SS_slices_Contains__Contact (@slices_Contains__Contact _)) := okF_of std (.cons ok_slices_Index__Contact .nil) ⟨rfl, rfl, by kernel_rfl, rfl, rfl⟩ (sm_slices_Contains__Contact I_slices_Contains__Contact) (cuts0 (fun _ => rfl) (by kernel_rfl)) Tryz.func63 (by kernel_rfl) (by kernel_rfl)
abbrev T_Q_LackingOf_1 : Type 1 := G_Contact → List G_Contact → {R : Type} → (Bool → List G_Contact → Option R) → Option R
structure C_Q_LackingOf_1 where
  N : Nat
  slices_Contains__Contact : T_slices_Contains__Contact
def Q_LackingOf_1_ (g : C_Q_LackingOf_1) (a1 : G_Contact) (a2 : List G_Contact) {R : Type} (k0 : Bool → List G_Contact → Option R) : Option R :=
  (g.slices_Contains__Contact a2 a1 (fun r3 => k0 r3 a2))
def I_Q_LackingOf_1 [Fuel] : C_Q_LackingOf_1 := ⟨NN, @slices_Contains__Contact _⟩
def Q_LackingOf_1 [Fuel] : T_Q_LackingOf_1 := @Q_LackingOf_1_ I_Q_LackingOf_1
def SS_Q_LackingOf_1 (g : T_Q_LackingOf_1) : Spec A := fun args => match args with | [.agg [.d (.int .i64 a1), .d (.int .i64 a2), .d (.str a3), .d (.str a4), .d (.int .i64 a5), .d (.int .i64 a6), .d (.str a7), .d (.str a8)], .box [.d (.sl 58 a9)]] => fun k => g ⟨a1, a2, a3, a4, a5, a6, a7, a8⟩ a9 (fun z0 z1 => k (.d (.bool z0)) [.undef, .box [.d (.sl 58 z1)]]) | _ => fun _ => none
noncomputable def code_62 : Code := (Tryz.f62.body).getD .skip
noncomputable def E_Q_LackingOf_1 (g : C_Q_LackingOf_1) : Env A := mkE [(63, SS_slices_Contains__Contact g.slices_Contains__Contact)] [(2, [1])] [] [] [] [] [] [] [] [1]
theorem sm_Q_LackingOf_1 (g : C_Q_LackingOf_1) : Same (SS_Q_LackingOf_1 (@Q_LackingOf_1_ g)) (abody (E_Q_LackingOf_1 g) Tryz.f62 code_62 2 [0] [.asis] g.N) := by intro args; unfold SS_Q_LackingOf_1; split; exact .inr fun R k => (by kernel_rfl); exact .inl fun R k => rfl
theorem ok_Q_LackingOf_1 [Fuel] : Ok 62 (SS_Q_LackingOf_1 (@Q_LackingOf_1 _)) := okF_of std (.cons ok_slices_Contains__Contact .nil) ⟨rfl, rfl, by kernel_rfl, rfl, rfl⟩ (sm_Q_LackingOf_1 I_Q_LackingOf_1) (cuts0 (fun _ => rfl) (by kernel_rfl)) Tryz.func62 (by kernel_rfl) (by kernel_rfl)
abbrev T_slices_IndexFunc__Contact_Q_LackingOf_1 : Type 1 := List G_Contact → List G_Contact → {R : Type} → (Int → List G_Contact → List G_Contact → Option R) → Option R
structure C_slices_IndexFunc__Contact_Q_LackingOf_1 where
  N : Nat
  Q_LackingOf_1 : T_Q_LackingOf_1
def slices_IndexFunc__Contact_Q_LackingOf_1_L2 (g : C_slices_IndexFunc__Contact_Q_LackingOf_1) : Nat → Int → Int → List G_Contact → List G_Contact → {R : Type} → (Int → List G_Contact → List G_Contact → Option R) → (List G_Contact → List G_Contact → Option R) → Option R
  | 0, _, _, _, _, _, _, _ => none
  | n + 1, v3, v4, v5, v6, _, e0, e1 => (bif (decide (v4 < v3)) then (inr v5 v4 (at_ v5 v4 fun x10 => (g.Q_LackingOf_1 x10 v6 (fun r11 r12 => (bif r11 then e0 v4 v5 r12 else slices_IndexFunc__Contact_Q_LackingOf_1_L2 g n v3 (w64 (v4 + 1)) v5 r12 e0 e1))))) else e1 v5 v6)
def slices_IndexFunc__Contact_Q_LackingOf_1_ (g : C_slices_IndexFunc__Contact_Q_LackingOf_1) (a1 a2 : List G_Contact) {R : Type} (k0 : Int → List G_Contact → List G_Contact → Option R) : Option R :=
  (slices_IndexFunc__Contact_Q_LackingOf_1_L2 g g.N (a1.length : Int) 0 a1 a2 (fun e13 e14 e15 => k0 e13 e14 e15) (fun e16 e17 => k0 (-1) e16 e17))
def I_slices_IndexFunc__Contact_Q_LackingOf_1 [Fuel] : C_slices_IndexFunc__Contact_Q_LackingOf_1 := ⟨NN, @Q_LackingOf_1 _⟩
def slices_IndexFunc__Contact_Q_LackingOf_1 [Fuel] : T_slices_IndexFunc__Contact_Q_LackingOf_1 := @slices_IndexFunc__Contact_Q_LackingOf_1_ I_slices_IndexFunc__Contact_Q_LackingOf_1
def SS_slices_IndexFunc__Contact_Q_LackingOf_1 (g : T_slices_IndexFunc__Contact_Q_LackingOf_1) : Spec A := fun args => match args with | [.arr 58 a1, .fn 62 [.box [.d (.sl 58 a2)]]] => fun k => g a1 a2 (fun z0 z1 z2 => k (.d (.int .i64 z0)) [.arr 58 z1, .fn 62 [.box [.d (.sl 58 z2)]]]) | _ => fun _ => none
def sh_slices_IndexFunc__Contact_Q_LackingOf_1_L2 : SSt := mkSh 19 2 [(0, .own 58 0), (1, .fn 62 [.ptr 1 0]), (7, .int .i64), (8, .int .i64)] [(0, .row 58), (1, .box [.sl 58])]
def LP_slices_IndexFunc__Contact_Q_LackingOf_1_L2 (g : C_slices_IndexFunc__Contact_Q_LackingOf_1) (n : Nat) : LPT A := fun ps => match ps with | [.d (.int .i64 p1), .d (.int .i64 p2), .d (.sl 58 p3), .d (.sl 58 p4)] => fun K => slices_IndexFunc__Contact_Q_LackingOf_1_L2 g n p1 p2 p3 p4 (fun z0 z1 z2 => K .ret (mkSt 19 2 [(0, .own 58 0), (1, .fn 62 [.ptr 1 0]), (4, .d (.int .i64 z0))] [(0, some (.row 58 z1)), (1, some (.box [.d (.sl 58 z2)]))])) (fun z0 z1 => K (.exit 0) (mkSt 19 2 [(0, .own 58 0), (1, .fn 62 [.ptr 1 0])] [(0, some (.row 58 z0)), (1, some (.box [.d (.sl 58 z1)]))])) | _ => fun _ => none
noncomputable def code_76 : Code := (Tryz.f76.body).getD .skip
noncomputable def E_slices_IndexFunc__Contact_Q_LackingOf_1 (g : C_slices_IndexFunc__Contact_Q_LackingOf_1) : Env A := mkE [(62, SS_Q_LackingOf_1 g.Q_LackingOf_1)] [] [(2, ⟨[0, 1, 7, 8], [], [0, 1], []⟩)] [(2, ⟨[0, 1, 4], [], [0, 1], []⟩)] [(2, pieceOf sh_slices_IndexFunc__Contact_Q_LackingOf_1_L2 (LP_slices_IndexFunc__Contact_Q_LackingOf_1_L2 g g.N))] [] [] [] [] [0, 1]
theorem ct_slices_IndexFunc__Contact_Q_LackingOf_1 [Fuel] : NatTab (E_slices_IndexFunc__Contact_Q_LackingOf_1 I_slices_IndexFunc__Contact_Q_LackingOf_1).C := ct_of (P := Tryz.prog) (T := T) (.cons ok_Q_LackingOf_1 .nil) (by kernel_rfl)
noncomputable def cb_slices_IndexFunc__Contact_Q_LackingOf_1_L2 : Code := sub [1, 0, 1, 0, 0] code_76
theorem s_slices_IndexFunc__Contact_Q_LackingOf_1_L2 (g : C_slices_IndexFunc__Contact_Q_LackingOf_1) (n : Nat) : StepOk (E_slices_IndexFunc__Contact_Q_LackingOf_1 g) g.N cb_slices_IndexFunc__Contact_Q_LackingOf_1_L2 sh_slices_IndexFunc__Contact_Q_LackingOf_1_L2 (LP_slices_IndexFunc__Contact_Q_LackingOf_1_L2 g) n := by intro ps; unfold LP_slices_IndexFunc__Contact_Q_LackingOf_1_L2; split; exact .inr fun R K => (by kernel_rfl); exact .inl fun R K => rfl
theorem lf_slices_IndexFunc__Contact_Q_LackingOf_1_L2 [Fuel] : LoopFine (E_slices_IndexFunc__Contact_Q_LackingOf_1 I_slices_IndexFunc__Contact_Q_LackingOf_1) NN cb_slices_IndexFunc__Contact_Q_LackingOf_1_L2 := fine_loop sh_slices_IndexFunc__Contact_Q_LackingOf_1_L2 (LP_slices_IndexFunc__Contact_Q_LackingOf_1_L2 I_slices_IndexFunc__Contact_Q_LackingOf_1) (by kernel_rfl) ct_slices_IndexFunc__Contact_Q_LackingOf_1 (cuts0 (fun _ => rfl) (by kernel_rfl)) (fun ps R K => by unfold LP_slices_IndexFunc__Contact_Q_LackingOf_1_L2; split <;> (try unfold slices_IndexFunc__Contact_Q_LackingOf_1_L2) <;> rfl) (s_slices_IndexFunc__Contact_Q_LackingOf_1_L2 I_slices_IndexFunc__Contact_Q_LackingOf_1)
theorem sm_slices_IndexFunc__Contact_Q_LackingOf_1 (g : C_slices_IndexFunc__Contact_Q_LackingOf_1) : Same (SS_slices_IndexFunc__Contact_Q_LackingOf_1 (@slices_IndexFunc__Contact_Q_LackingOf_1_ g)) (abody (E_slices_IndexFunc__Contact_Q_LackingOf_1 g) Tryz.f76 code_76 2 [0, 1] [.asis] g.N) := by intro args; unfold SS_slices_IndexFunc__Contact_Q_LackingOf_1; split; exact .inr fun R k => (by kernel_rfl); exact .inl fun R k => rfl
theorem ok_slices_IndexFunc__Contact_Q_LackingOf_1 [Fuel] : Ok 76 (SS_slices_IndexFunc__Contact_Q_LackingOf_1 (@slices_IndexFunc__Contact_Q_LackingOf_1 _)) := okF_of std (.cons ok_Q_LackingOf_1 .nil) ⟨rfl, rfl, by kernel_rfl, rfl, rfl⟩ (sm_slices_IndexFunc__Contact_Q_LackingOf_1 I_slices_IndexFunc__Contact_Q_LackingOf_1) (cutsL (fun _ => rfl) (.cons lf_slices_IndexFunc__Contact_Q_LackingOf_1_L2 .nil) (by kernel_rfl)) Tryz.func76 (by kernel_rfl) (by kernel_rfl)
abbrev T_slices_DeleteFunc__Contact_Q_LackingOf_1 : Type 1 := List G_Contact → List G_Contact → {R : Type} → (List G_Contact → List G_Contact → Option R) → Option R
structure C_slices_DeleteFunc__Contact_Q_LackingOf_1 where
  N : Nat
  Q_LackingOf_1 : T_Q_LackingOf_1
  slices_IndexFunc__Contact_Q_LackingOf_1 : T_slices_IndexFunc__Contact_Q_LackingOf_1
def slices_DeleteFunc__Contact_Q_LackingOf_1_L5 (g : C_slices_DeleteFunc__Contact_Q_LackingOf_1) : Nat → Int → Int → List G_Contact → List G_Contact → {R : Type} → (Int → List G_Contact → List G_Contact → Option R) → Option R
  | 0, _, _, _, _, _, _ => none
  | n + 1, v6, v7, v8, v9, _, e0 => (bif (decide (v7 < (v8.length : Int))) then (inr v8 v7 (at_ v8 v7 fun x14 => (g.Q_LackingOf_1 x14 v9 (fun r15 r16 => (bif (!r15) then (inr v8 v6 (at_ v8 v6 fun x17 => slices_DeleteFunc__Contact_Q_LackingOf_1_L5 g n (w64 (v6 + 1)) (w64 (v7 + 1)) (set_ v8 v6 x14) r16 e0)) else slices_DeleteFunc__Contact_Q_LackingOf_1_L5 g n v6 (w64 (v7 + 1)) v8 r16 e0))))) else e0 v6 v8 v9)
def slices_DeleteFunc__Contact_Q_LackingOf_1_ (g : C_slices_DeleteFunc__Contact_Q_LackingOf_1) (a1 a2 : List G_Contact) {R : Type} (k0 : List G_Contact → List G_Contact → Option R) : Option R :=
  (g.slices_IndexFunc__Contact_Q_LackingOf_1 a1 a2 (fun r3 r4 r5 => (bif (r3 == (-1)) then k0 r4 r5 else (slices_DeleteFunc__Contact_Q_LackingOf_1_L5 g g.N r3 (w64 (r3 + 1)) r4 r5 (fun e18 e19 e20 => (bif (decide (0 < e19.length) && (decide (0 ≤ e18) && decide (e18 ≤ (e19.length : Int)))) then (bif (decide (0 ≤ e18) && (decide (e18 ≤ (e19.length : Int)) && decide (((e19.length : Int)).toNat ≤ e19.length))) then (bif (decide (0 ≤ e18) && decide (e18 ≤ ((e19.take (e18).toNat ++ (List.replicate ((e19.length : Int) - e18).toNat (⟨0, 0, [], [], 0, 0, [], []⟩ : G_Contact) ++ e19.drop ((e19.length : Int)).toNat)).length : Int))) then k0 ((e19.take (e18).toNat ++ (List.replicate ((e19.length : Int) - e18).toNat (⟨0, 0, [], [], 0, 0, [], []⟩ : G_Contact) ++ e19.drop ((e19.length : Int)).toNat)).take (e18 : Int).toNat) e20 else none) else none) else none))))))
def I_slices_DeleteFunc__Contact_Q_LackingOf_1 [Fuel] : C_slices_DeleteFunc__Contact_Q_LackingOf_1 := ⟨NN, @Q_LackingOf_1 _, @slices_IndexFunc__Contact_Q_LackingOf_1 _⟩
def slices_DeleteFunc__Contact_Q_LackingOf_1 [Fuel] : T_slices_DeleteFunc__Contact_Q_LackingOf_1 := @slices_DeleteFunc__Contact_Q_LackingOf_1_ I_slices_DeleteFunc__Contact_Q_LackingOf_1
def SS_slices_DeleteFunc__Contact_Q_LackingOf_1 (g : T_slices_DeleteFunc__Contact_Q_LackingOf_1) : Spec A := fun args => match args with | [.arr 58 a1, .fn 62 [.box [.d (.sl 58 a2)]]] => fun k => g a1 a2 (fun z0 z1 => k (.arr 58 z0) [.undef, .fn 62 [.box [.d (.sl 58 z1)]]]) | _ => fun _ => none
def sh_slices_DeleteFunc__Contact_Q_LackingOf_1_L5 : SSt := mkSh 42 6 [(0, .own 58 0), (1, .fn 62 [.ptr 1 0]), (5, .int .i64), (6, .int .i64)] [(0, .row 58), (1, .box [.sl 58])]
def LP_slices_DeleteFunc__Contact_Q_LackingOf_1_L5 (g : C_slices_DeleteFunc__Contact_Q_LackingOf_1) (n : Nat) : LPT A := fun ps => match ps with | [.d (.int .i64 p1), .d (.int .i64 p2), .d (.sl 58 p3), .d (.sl 58 p4)] => fun K => slices_DeleteFunc__Contact_Q_LackingOf_1_L5 g n p1 p2 p3 p4 (fun z0 z1 z2 => K (.exit 0) (mkSt 42 6 [(0, .own 58 0), (1, .fn 62 [.ptr 1 0]), (5, .d (.int .i64 z0))] [(0, some (.row 58 z1)), (1, some (.box [.d (.sl 58 z2)]))])) | _ => fun _ => none
noncomputable def code_61 : Code := (Tryz.f61.body).getD .skip
noncomputable def E_slices_DeleteFunc__Contact_Q_LackingOf_1 (g : C_slices_DeleteFunc__Contact_Q_LackingOf_1) : Env A := mkE [(62, SS_Q_LackingOf_1 g.Q_LackingOf_1), (76, SS_slices_IndexFunc__Contact_Q_LackingOf_1 g.slices_IndexFunc__Contact_Q_LackingOf_1)] [(7, [2]), (38, [3, 4]), (41, [5])] [(5, ⟨[0, 1, 5, 6], [], [0, 1], []⟩)] [(5, ⟨[0, 1, 5], [], [0, 1], []⟩)] [(5, pieceOf sh_slices_DeleteFunc__Contact_Q_LackingOf_1_L5 (LP_slices_DeleteFunc__Contact_Q_LackingOf_1_L5 g g.N))] [] [] [] [(76, 0)] [1]
theorem ct_slices_DeleteFunc__Contact_Q_LackingOf_1 [Fuel] : NatTab (E_slices_DeleteFunc__Contact_Q_LackingOf_1 I_slices_DeleteFunc__Contact_Q_LackingOf_1).C := ct_of (P := Tryz.prog) (T := T) (.cons ok_Q_LackingOf_1 (.cons ok_slices_IndexFunc__Contact_Q_LackingOf_1 .nil)) (by kernel_rfl)
noncomputable def cb_slices_DeleteFunc__Contact_Q_LackingOf_1_L5 : Code := sub [1, 1, 1, 0, 1, 0, 0] code_61
theorem s_slices_DeleteFunc__Contact_Q_LackingOf_1_L5 (g : C_slices_DeleteFunc__Contact_Q_LackingOf_1) (n : Nat) : StepOk (E_slices_DeleteFunc__Contact_Q_LackingOf_1 g) g.N cb_slices_DeleteFunc__Contact_Q_LackingOf_1_L5 sh_slices_DeleteFunc__Contact_Q_LackingOf_1_L5 (LP_slices_DeleteFunc__Contact_Q_LackingOf_1_L5 g) n := by intro ps; unfold LP_slices_DeleteFunc__Contact_Q_LackingOf_1_L5; split; exact .inr fun R K => (by kernel_rfl); exact .inl fun R K => rfl
theorem lf_slices_DeleteFunc__Contact_Q_LackingOf_1_L5 [Fuel] : LoopFine (E_slices_DeleteFunc__Contact_Q_LackingOf_1 I_slices_DeleteFunc__Contact_Q_LackingOf_1) NN cb_slices_DeleteFunc__Contact_Q_LackingOf_1_L5 := fine_loop sh_slices_DeleteFunc__Contact_Q_LackingOf_1_L5 (LP_slices_DeleteFunc__Contact_Q_LackingOf_1_L5 I_slices_DeleteFunc__Contact_Q_LackingOf_1) (by kernel_rfl) ct_slices_DeleteFunc__Contact_Q_LackingOf_1 (cuts0 (fun _ => rfl) (by kernel_rfl)) (fun ps R K => by unfold LP_slices_DeleteFunc__Contact_Q_LackingOf_1_L5; split <;> (try unfold slices_DeleteFunc__Contact_Q_LackingOf_1_L5) <;> rfl) (s_slices_DeleteFunc__Contact_Q_LackingOf_1_L5 I_slices_DeleteFunc__Contact_Q_LackingOf_1)
theorem sm_slices_DeleteFunc__Contact_Q_LackingOf_1 (g : C_slices_DeleteFunc__Contact_Q_LackingOf_1) : Same (SS_slices_DeleteFunc__Contact_Q_LackingOf_1 (@slices_DeleteFunc__Contact_Q_LackingOf_1_ g)) (abody (E_slices_DeleteFunc__Contact_Q_LackingOf_1 g) Tryz.f61 code_61 6 [0, 1] [.arr 58] g.N) := by intro args; unfold SS_slices_DeleteFunc__Contact_Q_LackingOf_1; split; exact .inr fun R k => (by kernel_rfl); exact .inl fun R k => rfl
theorem ok_slices_DeleteFunc__Contact_Q_LackingOf_1 [Fuel] : Ok 61 (SS_slices_DeleteFunc__Contact_Q_LackingOf_1 (@slices_DeleteFunc__Contact_Q_LackingOf_1 _)) := okF_of std (.cons ok_Q_LackingOf_1 (.cons ok_slices_IndexFunc__Contact_Q_LackingOf_1 .nil)) ⟨rfl, rfl, by kernel_rfl, rfl, rfl⟩ (sm_slices_DeleteFunc__Contact_Q_LackingOf_1 I_slices_DeleteFunc__Contact_Q_LackingOf_1) (cutsL (fun _ => rfl) (.cons lf_slices_DeleteFunc__Contact_Q_LackingOf_1_L5 .nil) (by kernel_rfl)) Tryz.func61 (by kernel_rfl) (by kernel_rfl)
abbrev T_Q_LackingOf : Type 1 := List G_Contact → List G_Contact → {R : Type} → (List G_Contact → Option R) → Option R
structure C_Q_LackingOf where
  N : Nat
  slices_Clone__Contact : T_slices_Clone__Contact
  slices_DeleteFunc__Contact_Q_LackingOf_1 : T_slices_DeleteFunc__Contact_Q_LackingOf_1
def Q_LackingOf_ (g : C_Q_LackingOf) (a1 a2 : List G_Contact) {R : Type} (k0 : List G_Contact → Option R) : Option R :=
  (g.slices_Clone__Contact a2 (fun r3 => (g.slices_DeleteFunc__Contact_Q_LackingOf_1 r3 a1 (fun r4 r5 => k0 r4))))
def I_Q_LackingOf [Fuel] : C_Q_LackingOf := ⟨NN, @slices_Clone__Contact _, @slices_DeleteFunc__Contact_Q_LackingOf_1 _⟩
def Q_LackingOf [Fuel] : T_Q_LackingOf := @Q_LackingOf_ I_Q_LackingOf
def SS_Q_LackingOf (g : T_Q_LackingOf) : Spec A := fun args => match args with | [.d (.sl 58 a1), .d (.sl 58 a2)] => fun k => g a1 a2 (fun z0 => k (.arr 58 z0) [.undef, .undef]) | _ => fun _ => none
noncomputable def code_34 : Code := (Tryz.f34.body).getD .skip
noncomputable def E_Q_LackingOf (g : C_Q_LackingOf) : Env A := mkE [(29, SS_slices_Clone__Contact g.slices_Clone__Contact), (61, SS_slices_DeleteFunc__Contact_Q_LackingOf_1 g.slices_DeleteFunc__Contact_Q_LackingOf_1)] [(2, [0]), (6, [1]), (8, [2])] [] [] [] [] [] [] [(61, 0)] []
theorem sm_Q_LackingOf (g : C_Q_LackingOf) : Same (SS_Q_LackingOf (@Q_LackingOf_ g)) (abody (E_Q_LackingOf g) Tryz.f34 code_34 3 [] [.arr 58] g.N) := by intro args; unfold SS_Q_LackingOf; split; exact .inr fun R k => (by kernel_rfl); exact .inl fun R k => rfl
theorem ok_Q_LackingOf [Fuel] : Ok 34 (SS_Q_LackingOf (@Q_LackingOf _)) := okF_of std (.cons ok_slices_Clone__Contact (.cons ok_slices_DeleteFunc__Contact_Q_LackingOf_1 .nil)) ⟨rfl, rfl, by kernel_rfl, rfl, rfl⟩ (sm_Q_LackingOf I_Q_LackingOf) (cuts0 (fun _ => rfl) (by kernel_rfl)) Tryz.func34 (by kernel_rfl) (by kernel_rfl)
abbrev T_slices_Equal__Contact : Type 1 := List G_Contact → List G_Contact → {R : Type} → (Bool → Option R) → Option R
def slices_Equal__Contact_L4 (g : Nat) : Nat → List G_Contact → List G_Contact → Int → Int → {R : Type} → (Bool → Option R) → Option R → Option R
  | 0, _, _, _, _, _, _, _ => none
  | n + 1, v3, v4, v5, v6, _, e0, e1 => (bif (decide (v6 < v5)) then (get_ v3 v6 fun x9 => (get_ v4 v6 fun x10 => (bif (!(eq_G_Contact x9 x10)) then e0 false else slices_Equal__Contact_L4 g n v3 v4 v5 (w64 (v6 + 1)) e0 e1))) else e1)
def slices_Equal__Contact_ (g : Nat) (a1 a2 : List G_Contact) {R : Type} (k0 : Bool → Option R) : Option R :=
  (bif ((a1.length : Int) != (a2.length : Int)) then k0 false else (slices_Equal__Contact_L4 g g a1 a2 (a1.length : Int) 0 (fun e11 => k0 e11) (k0 true)))
def slices_Equal__Contact [Fuel] : T_slices_Equal__Contact := @slices_Equal__Contact_ NN
def p_slices_Equal__Contact (args : List (IV A)) : Bool := match args with | [.d (.sl 58 _), .d (.sl 58 _)] => true | _ => false
def SS_slices_Equal__Contact (g : T_slices_Equal__Contact) : Spec A := fun args => match args with | [.d (.sl 58 a1), .d (.sl 58 a2)] => fun k => g a1 a2 (fun z0 => k (.d (.bool z0)) [.undef, .undef]) | _ => fun _ => none
def sh_slices_Equal__Contact_L4 : SSt := mkSh 26 0 [(0, .sl 58), (1, .sl 58), (12, .int .i64), (13, .int .i64)] []
def LP_slices_Equal__Contact_L4 (g : Nat) (n : Nat) : LPT A := fun ps => match ps with | [.d (.sl 58 p1), .d (.sl 58 p2), .d (.int .i64 p3), .d (.int .i64 p4)] => fun K => slices_Equal__Contact_L4 g n p1 p2 p3 p4 (fun z0 => K .ret (mkSt 26 0 [(4, .d (.bool z0))] [])) (K (.exit 0) (mkSt 26 0 [] [])) | _ => fun _ => none
noncomputable def code_25 : Code := (Tryz.f25.body).getD .skip
noncomputable def E_slices_Equal__Contact (g : Nat) : Env A := mkE [] [] [(4, ⟨[0, 1, 12, 13], [], [], []⟩)] [(4, ⟨[4], [], [], []⟩)] [(4, pieceOf sh_slices_Equal__Contact_L4 (LP_slices_Equal__Contact_L4 g g))] [] [] [] [] []
theorem ct_slices_Equal__Contact [Fuel] : NatTab (E_slices_Equal__Contact NN).C := ct_of (P := Tryz.prog) (T := T) .nil (by kernel_rfl)
noncomputable def cb_slices_Equal__Contact_L4 : Code := sub [1, 1, 0, 1, 0, 0] code_25
theorem s_slices_Equal__Contact_L4 (g : Nat) (n : Nat) : StepOk (E_slices_Equal__Contact g) g cb_slices_Equal__Contact_L4 sh_slices_Equal__Contact_L4 (LP_slices_Equal__Contact_L4 g) n := by intro ps; unfold LP_slices_Equal__Contact_L4; split; exact .inr fun R K => (by kernel_rfl); exact .inl fun R K => rfl
theorem lf_slices_Equal__Contact_L4 [Fuel] : LoopFine (E_slices_Equal__Contact NN) NN cb_slices_Equal__Contact_L4 := fine_loop sh_slices_Equal__Contact_L4 (LP_slices_Equal__Contact_L4 NN) (by kernel_rfl) ct_slices_Equal__Contact (cuts0 (fun _ => rfl) (by kernel_rfl)) (fun ps R K => by unfold LP_slices_Equal__Contact_L4; split <;> (try unfold slices_Equal__Contact_L4) <;> rfl) (s_slices_Equal__Contact_L4 NN)
theorem sm_slices_Equal__Contact (g : Nat) : Same (SS_slices_Equal__Contact (@slices_Equal__Contact_ g)) (abody (E_slices_Equal__Contact g) Tryz.f25 code_25 0 [] [.asis] g) := by intro args; unfold SS_slices_Equal__Contact; split; exact .inr fun R k => (by kernel_rfl); exact .inl fun R k => rfl
theorem ok_slices_Equal__Contact [Fuel] : Ok 25 (SS_slices_Equal__Contact (@slices_Equal__Contact _)) := okF_of std .nil ⟨rfl, rfl, by kernel_rfl, rfl, rfl⟩ (sm_slices_Equal__Contact NN) (cutsL (fun _ => rfl) (.cons lf_slices_Equal__Contact_L4 .nil) (by kernel_rfl)) Tryz.func25 (by kernel_rfl) (by kernel_rfl)
abbrev T_call_BaseOf : Type 1 := List UInt8 → {R : Type} → (List UInt8 → Option R) → Option R
structure C_call_BaseOf where
  N : Nat
  call_Parts : T_call_Parts
def call_BaseOf_ (g : C_call_BaseOf) (a1 : List UInt8) {R : Type} (k0 : List UInt8 → Option R) : Option R :=
  (g.call_Parts a1 (fun r2 r3 => k0 r2.f_Base))
def I_call_BaseOf [Fuel] : C_call_BaseOf := ⟨NN, @call_Parts _⟩
def call_BaseOf [Fuel] : T_call_BaseOf := @call_BaseOf_ I_call_BaseOf
def SS_call_BaseOf (g : T_call_BaseOf) : Spec A := fun args => match args with | [.d (.str a1)] => fun k => g a1 (fun z0 => k (.d (.str z0)) [.undef]) | _ => fun _ => none
noncomputable def code_75 : Code := (Tryz.f75.body).getD .skip
noncomputable def E_call_BaseOf (g : C_call_BaseOf) : Env A := mkE [(84, SS_call_Parts g.call_Parts)] [(3, [0])] [] [] [] [] [] [] [] []
theorem sm_call_BaseOf (g : C_call_BaseOf) : Same (SS_call_BaseOf (@call_BaseOf_ g)) (abody (E_call_BaseOf g) Tryz.f75 code_75 1 [] [.asis] g.N) := by intro args; unfold SS_call_BaseOf; split; exact .inr fun R k => (by kernel_rfl); exact .inl fun R k => rfl
theorem ok_call_BaseOf [Fuel] : Ok 75 (SS_call_BaseOf (@call_BaseOf _)) := okF_of std (.cons ok_call_Parts .nil) ⟨rfl, rfl, by kernel_rfl, rfl, rfl⟩ (sm_call_BaseOf I_call_BaseOf) (cuts0 (fun _ => rfl) (by kernel_rfl)) Tryz.func75 (by kernel_rfl) (by kernel_rfl)
abbrev T_log_dupes : Type 1 := List G_Contact → {R : Type} → (List Int → Option R) → Option R
structure C_log_dupes where
  N : Nat
  call_BaseOf : T_call_BaseOf
def log_dupes_L4 (g : C_log_dupes) : Nat → List G_Contact → Int → Int → List (G_log_worked × Bool) → List Int → {R : Type} → (List Int → Option R) → Option R
  | 0, _, _, _, _, _, _, _ => none
  | n + 1, v2, v3, v4, v5, v6, _, e0 => (bif (decide (v4 < v3)) then (get_ v2 v4 fun x9 => (g.call_BaseOf x9.f_Call (fun r10 => (bif ((mget_log_worked_bool (⟨r10, x9.f_Band, x9.f_Mode⟩ : G_log_worked) v5).getD false) then (bif (decide ((v6.length + [v4].length) * 8 ≤ roomBytes')) then log_dupes_L4 g n v2 v3 (w64 (v4 + 1)) (mset_log_worked_bool (⟨r10, x9.f_Band, x9.f_Mode⟩ : G_log_worked) true v5) (v6 ++ [v4]) e0 else none) else log_dupes_L4 g n v2 v3 (w64 (v4 + 1)) (mset_log_worked_bool (⟨r10, x9.f_Band, x9.f_Mode⟩ : G_log_worked) true v5) v6 e0)))) else e0 v6)
def log_dupes_ (g : C_log_dupes) (a1 : List G_Contact) {R : Type} (k0 : List Int → Option R) : Option R :=
  (log_dupes_L4 g g.N a1 (a1.length : Int) 0 [] [] (fun e11 => k0 e11))
def I_log_dupes [Fuel] : C_log_dupes := ⟨NN, @call_BaseOf _⟩
def log_dupes [Fuel] : T_log_dupes := @log_dupes_ I_log_dupes
def SS_log_dupes (g : T_log_dupes) : Spec A := fun args => match args with | [.d (.sl 58 a1)] => fun k => g a1 (fun z0 => k (.arr 3 z0) [.undef]) | _ => fun _ => none
def sh_log_dupes_L4 : SSt := mkSh 35 6 [(3, .mp 0), (4, .own 3 1), (9, .sl 58), (10, .int .i64), (11, .int .i64)] [(0, .mp 92 4), (1, .row 3)]
def LP_log_dupes_L4 (g : C_log_dupes) (n : Nat) : LPT A := fun ps => match ps with | [.d (.sl 58 p1), .d (.int .i64 p2), .d (.int .i64 p3), .mp 92 4 p4, .d (.sl 3 p5)] => fun K => log_dupes_L4 g n p1 p2 p3 p4 p5 (fun z0 => K (.exit 0) (mkSt 35 6 [(4, .own 3 1)] [(1, some (.row 3 z0))])) | _ => fun _ => none
noncomputable def code_43 : Code := (Tryz.f43.body).getD .skip
noncomputable def E_log_dupes (g : C_log_dupes) : Env A := mkE [(75, SS_call_BaseOf g.call_BaseOf)] [(6, [2]), (7, [3]), (8, [0]), (29, [4]), (30, [5])] [(4, ⟨[3, 4, 9, 10, 11], [(4, 3, 1)], [0], []⟩)] [(4, ⟨[4], [], [1], []⟩)] [(4, pieceOf sh_log_dupes_L4 (LP_log_dupes_L4 g g.N))] [] [] [] [] []
theorem ct_log_dupes [Fuel] : NatTab (E_log_dupes I_log_dupes).C := ct_of (P := Tryz.prog) (T := T) (.cons ok_call_BaseOf .nil) (by kernel_rfl)
noncomputable def cb_log_dupes_L4 : Code := sub [1, 1, 1, 0, 1, 0, 0] code_43
theorem s_log_dupes_L4 (g : C_log_dupes) (n : Nat) : StepOk (E_log_dupes g) g.N cb_log_dupes_L4 sh_log_dupes_L4 (LP_log_dupes_L4 g) n := by intro ps; unfold LP_log_dupes_L4; split; exact .inr fun R K => (by kernel_rfl); exact .inl fun R K => rfl
theorem lf_log_dupes_L4 [Fuel] : LoopFine (E_log_dupes I_log_dupes) NN cb_log_dupes_L4 := fine_loop sh_log_dupes_L4 (LP_log_dupes_L4 I_log_dupes) (by kernel_rfl) ct_log_dupes (cuts0 (fun _ => rfl) (by kernel_rfl)) (fun ps R K => by unfold LP_log_dupes_L4; split <;> (try unfold log_dupes_L4) <;> rfl) (s_log_dupes_L4 I_log_dupes)
theorem sm_log_dupes (g : C_log_dupes) : Same (SS_log_dupes (@log_dupes_ g)) (abody (E_log_dupes g) Tryz.f43 code_43 6 [] [.arr 3] g.N) := by intro args; unfold SS_log_dupes; split; exact .inr fun R k => (by kernel_rfl); exact .inl fun R k => rfl
theorem ok_log_dupes [Fuel] : Ok 43 (SS_log_dupes (@log_dupes _)) := okF_of std (.cons ok_call_BaseOf .nil) ⟨rfl, rfl, by kernel_rfl, rfl, rfl⟩ (sm_log_dupes I_log_dupes) (cutsL (fun _ => rfl) (.cons lf_log_dupes_L4 .nil) (by kernel_rfl)) Tryz.func43 (by kernel_rfl) (by kernel_rfl)
abbrev T_log_Dupes : Type 1 := List G_Contact → {R : Type} → (List Int → Int → Option R) → Option R
structure C_log_Dupes where
  N : Nat
  log_CheckLog : T_log_CheckLog
  log_dupes : T_log_dupes
def log_Dupes_ (g : C_log_Dupes) (a1 : List G_Contact) {R : Type} (k0 : List Int → Int → Option R) : Option R :=
  (g.log_CheckLog a1 (fun r2 => (bif (r2 != 0) then k0 [] r2 else (g.log_dupes a1 (fun r3 => k0 r3 0)))))
def I_log_Dupes [Fuel] : C_log_Dupes := ⟨NN, @log_CheckLog _, @log_dupes _⟩
def log_Dupes [Fuel] : T_log_Dupes := @log_Dupes_ I_log_Dupes
def SS_log_Dupes (g : T_log_Dupes) : Spec A := fun args => match args with | [.d (.sl 58 a1)] => fun k => g a1 (fun z0 z1 => k (.tup [.arr 3 z0, .d (.int .i64 z1)]) [.undef]) | _ => fun _ => none
noncomputable def code_11 : Code := (Tryz.f11.body).getD .skip
noncomputable def E_log_Dupes (g : C_log_Dupes) : Env A := mkE [(37, SS_log_CheckLog g.log_CheckLog), (43, SS_log_dupes g.log_dupes)] [(11, [0])] [] [] [] [] [] [] [] []
theorem sm_log_Dupes (g : C_log_Dupes) : Same (SS_log_Dupes (@log_Dupes_ g)) (abody (E_log_Dupes g) Tryz.f11 code_11 1 [] [.arr 3, .asis] g.N) := by intro args; unfold SS_log_Dupes; split; exact .inr fun R k => (by kernel_rfl); exact .inl fun R k => rfl
theorem ok_log_Dupes [Fuel] : Ok 11 (SS_log_Dupes (@log_Dupes _)) := okF_of std (.cons ok_log_CheckLog (.cons ok_log_dupes .nil)) ⟨rfl, rfl, by kernel_rfl, rfl, rfl⟩ (sm_log_Dupes I_log_Dupes) (cuts0 (fun _ => rfl) (by kernel_rfl)) Tryz.func11 (by kernel_rfl) (by kernel_rfl)
abbrev T_slices_Equal__int : Type 1 := List Int → List Int → {R : Type} → (Bool → Option R) → Option R
def slices_Equal__int_L4 (g : Nat) : Nat → List Int → List Int → Int → Int → {R : Type} → (Bool → Option R) → Option R → Option R
  | 0, _, _, _, _, _, _, _ => none
  | n + 1, v3, v4, v5, v6, _, e0, e1 => (bif (decide (v6 < v5)) then (get_ v3 v6 fun x9 => (get_ v4 v6 fun x10 => (bif (x9 != x10) then e0 false else slices_Equal__int_L4 g n v3 v4 v5 (w64 (v6 + 1)) e0 e1))) else e1)
def slices_Equal__int_ (g : Nat) (a1 a2 : List Int) {R : Type} (k0 : Bool → Option R) : Option R :=
  (bif ((a1.length : Int) != (a2.length : Int)) then k0 false else (slices_Equal__int_L4 g g a1 a2 (a1.length : Int) 0 (fun e11 => k0 e11) (k0 true)))
def slices_Equal__int [Fuel] : T_slices_Equal__int := @slices_Equal__int_ NN
def SS_slices_Equal__int (g : T_slices_Equal__int) : Spec A := fun args => match args with | [.d (.sl 3 a1), .d (.sl 3 a2)] => fun k => g a1 a2 (fun z0 => k (.d (.bool z0)) [.undef, .undef]) | _ => fun _ => none
def sh_slices_Equal__int_L4 : SSt := mkSh 26 0 [(0, .sl 3), (1, .sl 3), (12, .int .i64), (13, .int .i64)] []
def LP_slices_Equal__int_L4 (g : Nat) (n : Nat) : LPT A := fun ps => match ps with | [.d (.sl 3 p1), .d (.sl 3 p2), .d (.int .i64 p3), .d (.int .i64 p4)] => fun K => slices_Equal__int_L4 g n p1 p2 p3 p4 (fun z0 => K .ret (mkSt 26 0 [(4, .d (.bool z0))] [])) (K (.exit 0) (mkSt 26 0 [] [])) | _ => fun _ => none
noncomputable def code_24 : Code := (Tryz.f24.body).getD .skip
noncomputable def E_slices_Equal__int (g : Nat) : Env A := mkE [] [] [(4, ⟨[0, 1, 12, 13], [], [], []⟩)] [(4, ⟨[4], [], [], []⟩)] [(4, pieceOf sh_slices_Equal__int_L4 (LP_slices_Equal__int_L4 g g))] [] [] [] [] []
theorem ct_slices_Equal__int [Fuel] : NatTab (E_slices_Equal__int NN).C := ct_of (P := Tryz.prog) (T := T) .nil (by kernel_rfl)
noncomputable def cb_slices_Equal__int_L4 : Code := sub [1, 1, 0, 1, 0, 0] code_24
theorem s_slices_Equal__int_L4 (g : Nat) (n : Nat) : StepOk (E_slices_Equal__int g) g cb_slices_Equal__int_L4 sh_slices_Equal__int_L4 (LP_slices_Equal__int_L4 g) n := by intro ps; unfold LP_slices_Equal__int_L4; split; exact .inr fun R K => (by kernel_rfl); exact .inl fun R K => rfl
theorem lf_slices_Equal__int_L4 [Fuel] : LoopFine (E_slices_Equal__int NN) NN cb_slices_Equal__int_L4 := fine_loop sh_slices_Equal__int_L4 (LP_slices_Equal__int_L4 NN) (by kernel_rfl) ct_slices_Equal__int (cuts0 (fun _ => rfl) (by kernel_rfl)) (fun ps R K => by unfold LP_slices_Equal__int_L4; split <;> (try unfold slices_Equal__int_L4) <;> rfl) (s_slices_Equal__int_L4 NN)
theorem sm_slices_Equal__int (g : Nat) : Same (SS_slices_Equal__int (@slices_Equal__int_ g)) (abody (E_slices_Equal__int g) Tryz.f24 code_24 0 [] [.asis] g) := by intro args; unfold SS_slices_Equal__int; split; exact .inr fun R k => (by kernel_rfl); exact .inl fun R k => rfl
theorem ok_slices_Equal__int [Fuel] : Ok 24 (SS_slices_Equal__int (@slices_Equal__int _)) := okF_of std .nil ⟨rfl, rfl, by kernel_rfl, rfl, rfl⟩ (sm_slices_Equal__int NN) (cutsL (fun _ => rfl) (.cons lf_slices_Equal__int_L4 .nil) (by kernel_rfl)) Tryz.func24 (by kernel_rfl) (by kernel_rfl)
abbrev T_law_logged : Type 1 := {R : Type} → (Bool → Option R) → Option R
structure C_law_logged where
  N : Nat
  log_Dupes : T_log_Dupes
  slices_Equal__int : T_slices_Equal__int
def law_logged_ (g : C_law_logged)  {R : Type} (k0 : Bool → Option R) : Option R :=
  (g.log_Dupes [(⟨0, 1, [98], [107, 49, 97, 98], 0, 0, [], []⟩ : G_Contact), (⟨5, 1, [98], [107, 49, 97, 98], 0, 0, [], []⟩ : G_Contact)] (fun r1 r2 => (bif (r2 == 0) then (g.slices_Equal__int r1 [1] (fun r3 => k0 r3)) else k0 false)))
def I_law_logged [Fuel] : C_law_logged := ⟨NN, @log_Dupes _, @slices_Equal__int _⟩
def law_logged [Fuel] : T_law_logged := @law_logged_ I_law_logged
def SS_law_logged (g : T_law_logged) : Spec A := fun args => match args with | [] => fun k => g (fun z0 => k (.d (.bool z0)) []) | _ => fun _ => none
noncomputable def code_27 : Code := (Tryz.f27.body).getD .skip
noncomputable def E_law_logged (g : C_law_logged) : Env A := mkE [(11, SS_log_Dupes g.log_Dupes), (24, SS_slices_Equal__int g.slices_Equal__int)] [(1, [0]), (2, [1]), (11, [2]), (12, [3]), (19, [4])] [] [] [] [] [] [] [] []
theorem sm_law_logged (g : C_law_logged) : Same (SS_law_logged (@law_logged_ g)) (abody (E_law_logged g) Tryz.f27 code_27 5 [] [.asis] g.N) := by intro args; unfold SS_law_logged; split; exact .inr fun R k => (by kernel_rfl); exact .inl fun R k => rfl
theorem ok_law_logged [Fuel] : Ok 27 (SS_law_logged (@law_logged _)) := okF_of std (.cons ok_log_Dupes (.cons ok_slices_Equal__int .nil)) ⟨rfl, rfl, by kernel_rfl, rfl, rfl⟩ (sm_law_logged I_law_logged) (cuts0 (fun _ => rfl) (by kernel_rfl)) Tryz.func27 (by kernel_rfl) (by kernel_rfl)
abbrev T_slices_Equal__Contact_n1 : Type 1 := List G_Contact → {R : Type} → (Bool → Option R) → Option R
def slices_Equal__Contact_n1_L4 (g : Nat) : Nat → List G_Contact → Int → Int → {R : Type} → Option R → Option R
  | 0, _, _, _, _, _ => none
  | n + 1, v2, v3, v4, _, e0 => (bif (decide (v4 < v3)) then (get_ v2 v4 fun x6 => none) else e0)
def slices_Equal__Contact_n1_ (g : Nat) (a1 : List G_Contact) {R : Type} (k0 : Bool → Option R) : Option R :=
  (bif ((a1.length : Int) != 0) then k0 false else (slices_Equal__Contact_n1_L4 g g a1 (a1.length : Int) 0 (k0 true)))
def slices_Equal__Contact_n1 [Fuel] : T_slices_Equal__Contact_n1 := @slices_Equal__Contact_n1_ NN
def SS_slices_Equal__Contact_n1 (g : T_slices_Equal__Contact_n1) : Spec A := fun args => match args with | [.d (.sl 58 a1), .d .nsl] => fun k => g a1 (fun z0 => k (.d (.bool z0)) [.undef, .undef]) | _ => fun _ => none
def sh_slices_Equal__Contact_n1_L4 : SSt := mkSh 26 0 [(0, .sl 58), (1, .nsl), (12, .int .i64), (13, .int .i64)] []
def LP_slices_Equal__Contact_n1_L4 (g : Nat) (n : Nat) : LPT A := fun ps => match ps with | [.d (.sl 58 p1), .d (.int .i64 p2), .d (.int .i64 p3)] => fun K => slices_Equal__Contact_n1_L4 g n p1 p2 p3 (K (.exit 0) (mkSt 26 0 [] [])) | _ => fun _ => none
noncomputable def E_slices_Equal__Contact_n1 (g : Nat) : Env A := mkE [] [] [(4, ⟨[0, 1, 12, 13], [], [], []⟩)] [(4, ⟨[], [], [], []⟩)] [(4, pieceOf sh_slices_Equal__Contact_n1_L4 (LP_slices_Equal__Contact_n1_L4 g g))] [] [] [] [] []
theorem ct_slices_Equal__Contact_n1 [Fuel] : NatTab (E_slices_Equal__Contact_n1 NN).C := ct_of (P := Tryz.prog) (T := T) .nil (by kernel_rfl)
noncomputable def cb_slices_Equal__Contact_n1_L4 : Code := sub [1, 1, 0, 1, 0, 0] code_25
theorem s_slices_Equal__Contact_n1_L4 (g : Nat) (n : Nat) : StepOk (E_slices_Equal__Contact_n1 g) g cb_slices_Equal__Contact_n1_L4 sh_slices_Equal__Contact_n1_L4 (LP_slices_Equal__Contact_n1_L4 g) n := by intro ps; unfold LP_slices_Equal__Contact_n1_L4; split; exact .inr fun R K => (by kernel_rfl); exact .inl fun R K => rfl
theorem lf_slices_Equal__Contact_n1_L4 [Fuel] : LoopFine (E_slices_Equal__Contact_n1 NN) NN cb_slices_Equal__Contact_n1_L4 := fine_loop sh_slices_Equal__Contact_n1_L4 (LP_slices_Equal__Contact_n1_L4 NN) (by kernel_rfl) ct_slices_Equal__Contact_n1 (cuts0 (fun _ => rfl) (by kernel_rfl)) (fun ps R K => by unfold LP_slices_Equal__Contact_n1_L4; split <;> (try unfold slices_Equal__Contact_n1_L4) <;> rfl) (s_slices_Equal__Contact_n1_L4 NN)
theorem sm_slices_Equal__Contact_n1 (g : Nat) : Same (SS_slices_Equal__Contact_n1 (@slices_Equal__Contact_n1_ g)) (abody (E_slices_Equal__Contact_n1 g) Tryz.f25 code_25 0 [] [.asis] g) := by intro args; unfold SS_slices_Equal__Contact_n1; split; exact .inr fun R k => (by kernel_rfl); exact .inl fun R k => rfl
theorem ok_slices_Equal__Contact_n1 [Fuel] : Ok 25 (SS_slices_Equal__Contact_n1 (@slices_Equal__Contact_n1 _)) := okF_of std .nil ⟨rfl, rfl, by kernel_rfl, rfl, rfl⟩ (sm_slices_Equal__Contact_n1 NN) (cutsL (fun _ => rfl) (.cons lf_slices_Equal__Contact_n1_L4 .nil) (by kernel_rfl)) Tryz.func25 (by kernel_rfl) (by kernel_rfl)
end Go.Am
