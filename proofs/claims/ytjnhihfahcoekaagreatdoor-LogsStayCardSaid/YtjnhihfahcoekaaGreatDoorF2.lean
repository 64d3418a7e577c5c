/- The functions of the program as Lean functions, each shown to be what the code computes, part 2. No condition: lemmas for the claim. -/
import Derived.Test.YtjnhihfahcoekaaGreatDoorF0
import Derived.Test.YtjnhihfahcoekaaGreatDoorFSh
import Derived.Test.YtjnhihfahcoekaaGreatDoorF1
set_option linter.unusedVariables false
set_option maxRecDepth 100000
namespace Go.Am
open Go Go.Proofs
abbrev T_z9z : Type 1 := G_Contact → G_Contact → {R : Type} → (Bool → Option R) → Option R
structure C_z9z where
 N : Nat
 z5z : T_z5z
def z9z_ (g : C_z9z) (a1 a2 : G_Contact) {R : Type} (k0 : Bool → Option R) : Option R :=
 (g.z5z a1 a2 (fun r3 => k0 (r3 == 0)))
noncomputable def I_z9z [Fuel] : C_z9z := ⟨NN, @z5z _⟩
noncomputable def z9z [Fuel] : T_z9z := @z9z_ I_z9z
def SS_z9z (g : T_z9z) : Spec A := fun args => match args with | [.agg [.d (.int .i64 a1), .d (.int .i64 a2), .d (.str a3), .d (.str a4), .d (.int .i64 a5), .d (.int .i64 a6), .d (.str a7), .d (.str a8)], .agg [.d (.int .i64 a9), .d (.int .i64 a10), .d (.str a11), .d (.str a12), .d (.int .i64 a13), .d (.int .i64 a14), .d (.str a15), .d (.str a16)]] => fun k => g ⟨a1, a2, a3, a4, a5, a6, a7, a8⟩ ⟨a9, a10, a11, a12, a13, a14, a15, a16⟩ (fun z0 => k (.d (.bool z0)) [.undef, .undef]) | _ => fun _ => none
noncomputable def code_42 : Code := (Tryz.f42.body).getD .skip
noncomputable def E_z9z (g : C_z9z) : Env A := mkE [(40, SS_z5z g.z5z)] [(2, [0]), (3, [1])] [] [] [] [] [] [] [] []
theorem sm_z9z (g : C_z9z) : Same (SS_z9z (@z9z_ g)) (abody (E_z9z g) Tryz.f42 code_42 2 [] [.asis] g.N) := by intro args; unfold SS_z9z; split; exact .inr fun R k => (by kernel_rfl); exact .inl fun R k => rfl
theorem ok_z9z [Fuel] : Ok 42 (SS_z9z (@z9z _)) := okF_of std (.cons ok_z5z .nil) ⟨rfl, rfl, by kernel_rfl, rfl, rfl, rfl⟩ (sm_z9z I_z9z) (cuts0 (fun _ => rfl) (by kernel_rfl)) Tryz.func42 (by kernel_rfl) (by kernel_rfl)
abbrev T_z4z : Type 1 := List G_Contact → {R : Type} → (List G_Contact → Option R) → Option R
structure C_z4z where
 N : Nat
 z9z : T_z9z
def z4z_L9 (g : C_z4z) : Nat → Int → Int → Int → Int → List G_Contact → {R : Type} → (Int → List G_Contact → Option R) → Option R
 | 0, _, _, _, _, _, _, _ => none
 | n + 1, v27, v28, v29, v30, v31, _, e0 => (bif (decide (v30 < ((v29 - v28).toNat : Int))) then (bif (decide (0 ≤ v30) && (decide (v30 < v29 - v28) && decide (v28 + v30 < (v31.length : Int)))) then (at_ v31 (v28 + v30) fun x37 => (bif (decide (0 ≤ (w64 (v30 - 1))) && (decide ((w64 (v30 - 1)) < v29 - v28) && decide (v28 + (w64 (v30 - 1)) < (v31.length : Int)))) then (at_ v31 (v28 + (w64 (v30 - 1))) fun x38 => (g.z9z x37 x38 (fun r39 => (bif (!r39) then (bif (decide (0 ≤ v30) && (decide (v30 < v29 - v28) && decide (v28 + v30 < (v31.length : Int)))) then (at_ v31 (v28 + v30) fun x40 => (inr v31 v27 (at_ v31 v27 fun x41 => z4z_L9 g n (w64 (v27 + 1)) v28 v29 (w64 (v30 + 1)) (set_ v31 v27 x40) e0))) else none) else z4z_L9 g n v27 v28 v29 (w64 (v30 + 1)) v31 e0)))) else none)) else none) else e0 v27 v31)
def z4z_L4 (g : C_z4z) : Nat → Int → List G_Contact → {R : Type} → (List G_Contact → Option R) → (List G_Contact → Option R) → Option R
 | 0, _, _, _, _, _ => none
 | n + 1, v2, v3, _, e0, e1 => (bif (decide (v2 < (v3.length : Int))) then (inr v3 v2 (at_ v3 v2 fun x24 => (inr v3 (w64 (v2 - 1)) (at_ v3 (w64 (v2 - 1)) fun x25 => (g.z9z x24 x25 (fun r26 => (bif r26 then (bif (decide (0 < v3.length) && (decide (0 ≤ v2) && decide (v2 ≤ (v3.length : Int)))) then (z4z_L9 g g.N v2 v2 (v3.length : Int) 1 v3 (fun e42 e43 => (bif (decide (0 < e43.length) && (decide (0 ≤ e42) && decide (e42 ≤ (e43.length : Int)))) then (bif (decide (0 ≤ e42) && (decide (e42 ≤ (e43.length : Int)) && decide (((e43.length : Int)).toNat ≤ e43.length))) then (bif (decide (0 ≤ e42) && decide (e42 ≤ ((e43.take (e42).toNat ++ (List.replicate ((e43.length : Int) - e42).toNat (⟨0, 0, [], [], 0, 0, [], []⟩ : G_Contact) ++ e43.drop ((e43.length : Int)).toNat)).length : Int))) then e0 ((e43.take (e42).toNat ++ (List.replicate ((e43.length : Int) - e42).toNat (⟨0, 0, [], [], 0, 0, [], []⟩ : G_Contact) ++ e43.drop ((e43.length : Int)).toNat)).take (e42 : Int).toNat) else none) else none) else none))) else none) else z4z_L4 g n (w64 (v2 + 1)) v3 e0 e1))))))) else e1 v3)
def z4z_ (g : C_z4z) (a1 : List G_Contact) {R : Type} (k0 : List G_Contact → Option R) : Option R :=
 (bif (decide ((a1.length : Int) < 2)) then k0 a1 else (z4z_L4 g g.N 1 a1 (fun e44 => k0 e44) (fun e45 => k0 e45)))
noncomputable def I_z4z [Fuel] : C_z4z := ⟨NN, @z9z _⟩
noncomputable def z4z [Fuel] : T_z4z := @z4z_ I_z4z
def SS_z4z (g : T_z4z) : Spec A := fun args => match args with | [.arr 35 a1, .fn 42 []] => fun k => g a1 (fun z0 => k (.arr 35 z0) [.undef, .fn 42 []]) | _ => fun _ => none
def sh_z4z_L9 : SSt := mkSh 66 6 [(0, .own 35 0), (1, .fn 42 []), (5, .int .i64), (6, .vw 35 0), (7, .int .i64)] [(0, .row 35)]
def LP_z4z_L9 (g : C_z4z) (n : Nat) : LPT A := fun ps => match ps with | [.d (.int .i64 p1), .z p2, .z p3, .d (.int .i64 p4), .d (.sl 35 p5)] => fun K => z4z_L9 g n p1 p2 p3 p4 p5 (fun z0 z1 => K (.exit 2) (mkSt 66 6 [(0, .own 35 0), (1, .fn 42 []), (5, .d (.int .i64 z0))] [(0, some (.row 35 z1))])) | _ => fun _ => none
def sh_z4z_L4 : SSt := mkSh 66 6 [(0, .own 35 0), (1, .fn 42 []), (5, .int .i64)] [(0, .row 35)]
def LP_z4z_L4 (g : C_z4z) (n : Nat) : LPT A := fun ps => match ps with | [.d (.int .i64 p1), .d (.sl 35 p2)] => fun K => z4z_L4 g n p1 p2 (fun z0 => K .ret (mkSt 66 6 [(0, .own 35 0), (1, .fn 42 []), (4, .own 35 5)] [(5, some (.row 35 z0))])) (fun z0 => K (.exit 0) (mkSt 66 6 [(0, .own 35 0), (1, .fn 42 [])] [(0, some (.row 35 z0))])) | _ => fun _ => none
noncomputable def code_41 : Code := (Tryz.f41.body).getD .skip
noncomputable def E_z4z (g : C_z4z) : Env A := mkE [(42, SS_z9z g.z9z)] [(31, [1, 2]), (61, [3, 4]), (64, [5])] [(9, ⟨[0, 1, 5, 6, 7], [], [0], [], [], []⟩), (4, ⟨[0, 1, 5], [], [0], [], [], []⟩)] [(9, ⟨[0, 1, 5], [], [0], [], [], []⟩), (4, ⟨[0, 1, 4], [], [0, 5], [], [], []⟩)] [(9, pieceOf sh_z4z_L9 (LP_z4z_L9 g g.N)), (4, pieceOf sh_z4z_L4 (LP_z4z_L4 g g.N))] [] [] [] [] [1]
theorem ct_z4z [Fuel] : NatTab (E_z4z I_z4z).C := ct_of (P := Tryz.prog) (T := T) (.cons ok_z9z .nil) (by kernel_rfl)
noncomputable def cb_z4z_L9 : Code := sub [1, 1, 0, 1, 0, 0, 1, 0, 0, 1, 0, 1, 0, 1, 0, 0] code_41
theorem s_z4z_L9 (g : C_z4z) (n : Nat) : StepOk (E_z4z g) g.N cb_z4z_L9 sh_z4z_L9 (LP_z4z_L9 g) n := by intro ps; unfold LP_z4z_L9; split; exact .inr fun R K => (by kernel_rfl); exact .inl fun R K => rfl
theorem lf_z4z_L9 [Fuel] : LoopFine (E_z4z I_z4z) NN cb_z4z_L9 := fine_loop sh_z4z_L9 (LP_z4z_L9 I_z4z) (by kernel_rfl) ct_z4z (cuts0 (fun _ => rfl) (by kernel_rfl)) (fun ps R K => by unfold LP_z4z_L9; split <;> (try unfold z4z_L9) <;> rfl) (s_z4z_L9 I_z4z)
noncomputable def cb_z4z_L4 : Code := sub [1, 1, 0, 1, 0, 0] code_41
theorem s_z4z_L4 (g : C_z4z) (n : Nat) : StepOk (E_z4z g) g.N cb_z4z_L4 sh_z4z_L4 (LP_z4z_L4 g) n := by intro ps; unfold LP_z4z_L4; split; exact .inr fun R K => (by kernel_rfl); exact .inl fun R K => rfl
theorem lf_z4z_L4 [Fuel] : LoopFine (E_z4z I_z4z) NN cb_z4z_L4 := fine_loop sh_z4z_L4 (LP_z4z_L4 I_z4z) (by kernel_rfl) ct_z4z (cutsL (fun _ => rfl) (.cons lf_z4z_L9 .nil) (by kernel_rfl)) (fun ps R K => by unfold LP_z4z_L4; split <;> (try unfold z4z_L4) <;> rfl) (s_z4z_L4 I_z4z)
theorem sm_z4z (g : C_z4z) : Same (SS_z4z (@z4z_ g)) (abody (E_z4z g) Tryz.f41 code_41 6 [0] [.arr 35] g.N) := by intro args; unfold SS_z4z; split; exact .inr fun R k => (by kernel_rfl); exact .inl fun R k => rfl
theorem ok_z4z [Fuel] : Ok 41 (SS_z4z (@z4z _)) := okF_of std (.cons ok_z9z .nil) ⟨rfl, rfl, by kernel_rfl, rfl, rfl, rfl⟩ (sm_z4z I_z4z) (cutsL (fun _ => rfl) (.cons lf_z4z_L9 (.cons lf_z4z_L4 .nil)) (by kernel_rfl)) Tryz.func41 (by kernel_rfl) (by kernel_rfl)
abbrev T_z8z : Type 1 := G_Stream → Int → {R : Type} → (List G_Contact → G_Stream → Option R) → Option R
structure C_z8z where
 N : Nat
 z58z : T_z58z
 z48z : T_z48z
 z22z : T_z22z
 z4z : T_z4z
def z8z_L4 (g : C_z8z) : Nat → Int → Int → Int → G_Stream → List G_Contact → {R : Type} → (G_Stream → List G_Contact → Option R) → Option R
 | 0, _, _, _, _, _, _, _ => none
 | n + 1, v3, v4, v5, v6, v7, _, e0 => (bif (decide (v5 < v4)) then (g.z58z v6 [0, 1, 10, 50, 1000, 40000, 1500000] (fun r12 r13 => (g.z48z r13 (w64 (v3 + r12)) (fun r14 r15 => (bif (decide ((v7.length + [r14].length) * 96 ≤ roomBytes')) then z8z_L4 g n (w64 (v3 + r12)) v4 (w64 (v5 + 1)) r15 (v7 ++ [r14]) e0 else none))))) else e0 v6 v7)
def z8z_ (g : C_z8z) (a1 : G_Stream) (a2 : Int) {R : Type} (k0 : List G_Contact → G_Stream → Option R) : Option R :=
 (z8z_L4 g g.N 0 a2 0 a1 [] (fun e16 e17 => (g.z22z e17 (fun r18 => (g.z4z r18 (fun r19 => k0 r19 e16))))))
noncomputable def I_z8z [Fuel] : C_z8z := ⟨NN, @z58z _, @z48z _, @z22z _, @z4z _⟩
noncomputable def z8z [Fuel] : T_z8z := @z8z_ I_z8z
def SS_z8z (g : T_z8z) : Spec A := fun args => match args with | [.box [.d (.sl 3 a1), .d (.int .i64 a2)], .d (.int .i64 a3)] => fun k => g ⟨a1, a2⟩ a3 (fun z0 z1 => k (.arr 35 z0) [.box [.d (.sl 3 z1.f_L), .d (.int .i64 z1.f_at)], .undef]) | _ => fun _ => none
def sh_z8z_L4 : SSt := mkSh 26 6 [(0, .ptr 0 0), (5, .own 35 1), (6, .int .i64), (7, .int .i64), (8, .int .i64)] [(0, .box [.sl 3, .int .i64]), (1, .row 35)]
def LP_z8z_L4 (g : C_z8z) (n : Nat) : LPT A := fun ps => match ps with | [.d (.int .i64 p1), .d (.int .i64 p2), .d (.int .i64 p3), .d (.sl 3 p4), .d (.int .i64 p5), .d (.sl 35 p6)] => fun K => z8z_L4 g n p1 p2 p3 ⟨p4, p5⟩ p6 (fun z0 z1 => K (.exit 0) (mkSt 26 6 [(0, .ptr 0 0), (5, .own 35 1)] [(0, some (.box [.d (.sl 3 z0.f_L), .d (.int .i64 z0.f_at)])), (1, some (.row 35 z1))])) | _ => fun _ => none
noncomputable def code_14 : Code := (Tryz.f14.body).getD .skip
noncomputable def E_z8z (g : C_z8z) : Env A := mkE [(17, SS_z58z g.z58z), (18, SS_z48z g.z48z), (24, SS_z22z g.z22z), (41, SS_z4z g.z4z)] [(12, [2]), (19, [3]), (20, [4]), (25, [5])] [(4, ⟨[0, 5, 6, 7, 8], [(5, 35, 1)], [0], [], [], []⟩)] [(4, ⟨[0, 5], [], [0, 1], [], [], []⟩)] [(4, pieceOf sh_z8z_L4 (LP_z8z_L4 g g.N))] [] [] [] [(24, 0), (41, 0)] [0]
theorem ct_z8z [Fuel] : NatTab (E_z8z I_z8z).C := ct_of (P := Tryz.prog) (T := T) (.cons ok_z58z (.cons ok_z48z (.cons ok_z22z (.cons ok_z4z .nil)))) (by kernel_rfl)
noncomputable def cb_z8z_L4 : Code := sub [1, 1, 1, 0, 1, 0, 0] code_14
theorem s_z8z_L4 (g : C_z8z) (n : Nat) : StepOk (E_z8z g) g.N cb_z8z_L4 sh_z8z_L4 (LP_z8z_L4 g) n := by intro ps; unfold LP_z8z_L4; split; exact .inr fun R K => (by kernel_rfl); exact .inl fun R K => rfl
theorem lf_z8z_L4 [Fuel] : LoopFine (E_z8z I_z8z) NN cb_z8z_L4 := fine_loop sh_z8z_L4 (LP_z8z_L4 I_z8z) (by kernel_rfl) ct_z8z (cuts0 (fun _ => rfl) (by kernel_rfl)) (fun ps R K => by unfold LP_z8z_L4; split <;> (try unfold z8z_L4) <;> rfl) (s_z8z_L4 I_z8z)
theorem sm_z8z (g : C_z8z) : Same (SS_z8z (@z8z_ g)) (abody (E_z8z g) Tryz.f14 code_14 6 [0] [.arr 35] g.N) := by intro args; unfold SS_z8z; split; exact .inr fun R k => (by kernel_rfl); exact .inl fun R k => rfl
theorem ok_z8z [Fuel] : Ok 14 (SS_z8z (@z8z _)) := okF_of std (.cons ok_z58z (.cons ok_z48z (.cons ok_z22z (.cons ok_z4z .nil)))) ⟨rfl, rfl, by kernel_rfl, rfl, rfl, rfl⟩ (sm_z8z I_z8z) (cutsL (fun _ => rfl) (.cons lf_z8z_L4 .nil) (by kernel_rfl)) Tryz.func14 (by kernel_rfl) (by kernel_rfl)
abbrev T_Q_in : Type 1 := Int → Int → Int → {R : Type} → (Bool → Option R) → Option R
def Q_in_ (g : Nat) (a1 a2 a3 : Int) {R : Type} (k0 : Bool → Option R) : Option R :=
 (bif (decide (a2 ≤ a1)) then k0 (decide (a1 ≤ a3)) else k0 false)
noncomputable def Q_in [Fuel] : T_Q_in := @Q_in_ NN
def SS_Q_in (g : T_Q_in) : Spec A := fun args => match args with | [.d (.int .i64 a1), .d (.int .i64 a2), .d (.int .i64 a3)] => fun k => g a1 a2 a3 (fun z0 => k (.d (.bool z0)) [.undef, .undef, .undef]) | _ => fun _ => none
noncomputable def code_71 : Code := (Tryz.f71.body).getD .skip
noncomputable def E_Q_in (g : Nat) : Env A := mkE [] [] [] [] [] [] [] [] [] []
theorem sm_Q_in (g : Nat) : Same (SS_Q_in (@Q_in_ g)) (abody (E_Q_in g) Tryz.f71 code_71 0 [] [.asis] g) := by intro args; unfold SS_Q_in; split; exact .inr fun R k => (by kernel_rfl); exact .inl fun R k => rfl
theorem ok_Q_in [Fuel] : Ok 71 (SS_Q_in (@Q_in _)) := okF_of std .nil ⟨rfl, rfl, by kernel_rfl, rfl, rfl, rfl⟩ (sm_Q_in NN) (cuts0 (fun _ => rfl) (by kernel_rfl)) Tryz.func71 (by kernel_rfl) (by kernel_rfl)
abbrev T_Q_Moment : Type 1 := Int → {R : Type} → (Bool → Option R) → Option R
structure C_Q_Moment where
 N : Nat
 Q_in : T_Q_in
def Q_Moment_ (g : C_Q_Moment) (a1 : Int) {R : Type} (k0 : Bool → Option R) : Option R :=
 (g.Q_in a1 0 345686399999 (fun r2 => k0 r2))
noncomputable def I_Q_Moment [Fuel] : C_Q_Moment := ⟨NN, @Q_in _⟩
noncomputable def Q_Moment [Fuel] : T_Q_Moment := @Q_Moment_ I_Q_Moment
def SS_Q_Moment (g : T_Q_Moment) : Spec A := fun args => match args with | [.d (.int .i64 a1)] => fun k => g a1 (fun z0 => k (.d (.bool z0)) [.undef]) | _ => fun _ => none
noncomputable def code_70 : Code := (Tryz.f70.body).getD .skip
noncomputable def E_Q_Moment (g : C_Q_Moment) : Env A := mkE [(71, SS_Q_in g.Q_in)] [] [] [] [] [] [] [] [] []
theorem sm_Q_Moment (g : C_Q_Moment) : Same (SS_Q_Moment (@Q_Moment_ g)) (abody (E_Q_Moment g) Tryz.f70 code_70 0 [] [.asis] g.N) := by intro args; unfold SS_Q_Moment; split; exact .inr fun R k => (by kernel_rfl); exact .inl fun R k => rfl
theorem ok_Q_Moment [Fuel] : Ok 70 (SS_Q_Moment (@Q_Moment _)) := okF_of std (.cons ok_Q_in .nil) ⟨rfl, rfl, by kernel_rfl, rfl, rfl, rfl⟩ (sm_Q_Moment I_Q_Moment) (cuts0 (fun _ => rfl) (by kernel_rfl)) Tryz.func70 (by kernel_rfl) (by kernel_rfl)
abbrev T_strings_IndexByte : Type 1 := List UInt8 → Int → {R : Type} → (Int → Option R) → Option R
def strings_IndexByte [Fuel] : T_strings_IndexByte := @X_ixb
def SS_strings_IndexByte (g : T_strings_IndexByte) : Spec A := SSX_ixb g
theorem ok_strings_IndexByte [Fuel] : Ok 93 (SS_strings_IndexByte (@strings_IndexByte _)) := ⟨ssx_ixb_sound (ixb_sound (Any.strings_IndexByte Tryz.lays137)), ssx_ixb_nat, enters_of (fn := Tryz.f93) Tryz.func93 (by kernel_rfl) (by kernel_rfl)⟩
abbrev T_Q_only : Type 1 := List UInt8 → List UInt8 → {R : Type} → (Bool → Option R) → Option R
structure C_Q_only where
 N : Nat
 strings_IndexByte : T_strings_IndexByte
def Q_only_L2 (g : C_Q_only) : Nat → List UInt8 → List UInt8 → Int → Int → {R : Type} → (Bool → Option R) → Option R → Option R
 | 0, _, _, _, _, _, _, _ => none
 | n + 1, v3, v4, v5, v6, _, e0, e1 => (bif (decide (v6 < v5)) then (get_ v3 v6 fun x9 => (g.strings_IndexByte v4 (x9.toNat : Int) (fun r10 => (bif (decide (r10 < 0)) then e0 false else Q_only_L2 g n v3 v4 v5 (w64 (v6 + 1)) e0 e1)))) else e1)
def Q_only_ (g : C_Q_only) (a1 a2 : List UInt8) {R : Type} (k0 : Bool → Option R) : Option R :=
 (Q_only_L2 g g.N a1 a2 (a1.length : Int) 0 (fun e11 => k0 e11) (k0 true))
noncomputable def I_Q_only [Fuel] : C_Q_only := ⟨NN, @strings_IndexByte _⟩
noncomputable def Q_only [Fuel] : T_Q_only := @Q_only_ I_Q_only
def SS_Q_only (g : T_Q_only) : Spec A := fun args => match args with | [.d (.str a1), .d (.str a2)] => fun k => g a1 a2 (fun z0 => k (.d (.bool z0)) [.undef, .undef]) | _ => fun _ => none
def sh_Q_only_L2 : SSt := mkSh 18 0 [(0, .str), (1, .str), (7, .int .i64), (8, .int .i64)] []
def LP_Q_only_L2 (g : C_Q_only) (n : Nat) : LPT A := fun ps => match ps with | [.d (.str p1), .d (.str p2), .d (.int .i64 p3), .d (.int .i64 p4)] => fun K => Q_only_L2 g n p1 p2 p3 p4 (fun z0 => K .ret (mkSt 18 0 [(4, .d (.bool z0))] [])) (K (.exit 0) (mkSt 18 0 [] [])) | _ => fun _ => none
noncomputable def code_106 : Code := (Tryz.f106.body).getD .skip
noncomputable def E_Q_only (g : C_Q_only) : Env A := mkE [(93, SS_strings_IndexByte g.strings_IndexByte)] [] [(2, ⟨[0, 1, 7, 8], [], [], [], [], []⟩)] [(2, ⟨[4], [], [], [], [], []⟩)] [(2, pieceOf sh_Q_only_L2 (LP_Q_only_L2 g g.N))] [] [] [] [] []
theorem ct_Q_only [Fuel] : NatTab (E_Q_only I_Q_only).C := ct_of (P := Tryz.prog) (T := T) (.cons ok_strings_IndexByte .nil) (by kernel_rfl)
noncomputable def cb_Q_only_L2 : Code := sub [1, 0, 1, 0, 0] code_106
theorem s_Q_only_L2 (g : C_Q_only) (n : Nat) : StepOk (E_Q_only g) g.N cb_Q_only_L2 sh_Q_only_L2 (LP_Q_only_L2 g) n := by intro ps; unfold LP_Q_only_L2; split; exact .inr fun R K => (by kernel_rfl); exact .inl fun R K => rfl
theorem lf_Q_only_L2 [Fuel] : LoopFine (E_Q_only I_Q_only) NN cb_Q_only_L2 := fine_loop sh_Q_only_L2 (LP_Q_only_L2 I_Q_only) (by kernel_rfl) ct_Q_only (cuts0 (fun _ => rfl) (by kernel_rfl)) (fun ps R K => by unfold LP_Q_only_L2; split <;> (try unfold Q_only_L2) <;> rfl) (s_Q_only_L2 I_Q_only)
theorem sm_Q_only (g : C_Q_only) : Same (SS_Q_only (@Q_only_ g)) (abody (E_Q_only g) Tryz.f106 code_106 0 [] [.asis] g.N) := by intro args; unfold SS_Q_only; split; exact .inr fun R k => (by kernel_rfl); exact .inl fun R k => rfl
theorem ok_Q_only [Fuel] : Ok 106 (SS_Q_only (@Q_only _)) := okF_of std (.cons ok_strings_IndexByte .nil) ⟨rfl, rfl, by kernel_rfl, rfl, rfl, rfl⟩ (sm_Q_only I_Q_only) (cutsL (fun _ => rfl) (.cons lf_Q_only_L2 .nil) (by kernel_rfl)) Tryz.func106 (by kernel_rfl) (by kernel_rfl)
abbrev T_Q_Key : Type 1 := List UInt8 → {R : Type} → (Bool → Option R) → Option R
structure C_Q_Key where
 N : Nat
 Q_in : T_Q_in
 Q_only : T_Q_only
def Q_Key_ (g : C_Q_Key) (a1 : List UInt8) {R : Type} (k0 : Bool → Option R) : Option R :=
 (g.Q_in (a1.length : Int) 1 40 (fun r2 => (bif r2 then (bif (decide (0 ≤ 1) && decide (1 ≤ (a1.length : Int))) then (g.Q_only (a1.take (1 : Int).toNat) [97, 98, 99, 100, 101, 102, 103, 104, 105, 106, 107, 108, 109, 110, 111, 112, 113, 114, 115, 116, 117, 118, 119, 120, 121, 122] (fun r3 => (bif r3 then (g.Q_only a1 [97, 98, 99, 100, 101, 102, 103, 104, 105, 106, 107, 108, 109, 110, 111, 112, 113, 114, 115, 116, 117, 118, 119, 120, 121, 122, 48, 49, 50, 51, 52, 53, 54, 55, 56, 57, 45, 95] (fun r4 => k0 r4)) else k0 false))) else none) else k0 false)))
noncomputable def I_Q_Key [Fuel] : C_Q_Key := ⟨NN, @Q_in _, @Q_only _⟩
noncomputable def Q_Key [Fuel] : T_Q_Key := @Q_Key_ I_Q_Key
def SS_Q_Key (g : T_Q_Key) : Spec A := fun args => match args with | [.d (.str a1)] => fun k => g a1 (fun z0 => k (.d (.bool z0)) [.undef]) | _ => fun _ => none
noncomputable def code_72 : Code := (Tryz.f72.body).getD .skip
noncomputable def E_Q_Key (g : C_Q_Key) : Env A := mkE [(71, SS_Q_in g.Q_in), (106, SS_Q_only g.Q_only)] [] [] [] [] [] [] [] [] []
theorem sm_Q_Key (g : C_Q_Key) : Same (SS_Q_Key (@Q_Key_ g)) (abody (E_Q_Key g) Tryz.f72 code_72 0 [] [.asis] g.N) := by intro args; unfold SS_Q_Key; split; exact .inr fun R k => (by kernel_rfl); exact .inl fun R k => rfl
theorem ok_Q_Key [Fuel] : Ok 72 (SS_Q_Key (@Q_Key _)) := okF_of std (.cons ok_Q_in (.cons ok_Q_only .nil)) ⟨rfl, rfl, by kernel_rfl, rfl, rfl, rfl⟩ (sm_Q_Key I_Q_Key) (cuts0 (fun _ => rfl) (by kernel_rfl)) Tryz.func72 (by kernel_rfl) (by kernel_rfl)
abbrev T_stringslite_Index : Type 1 := List UInt8 → List UInt8 → {R : Type} → (Int → Option R) → Option R
def stringslite_Index [Fuel] : T_stringslite_Index := @X_ix1
def SS_stringslite_Index (g : T_stringslite_Index) : Spec A := SSX_ix1 g
theorem ok_stringslite_Index [Fuel] : Ok 186 (SS_stringslite_Index (@stringslite_Index _)) := ⟨ssx_ix1_sound (ix1_sound (Any.stringslite_Index_one Tryz.lays219)), ssx_ix1_nat, enters_of (fn := Tryz.f186) Tryz.func186 (by kernel_rfl) (by kernel_rfl)⟩
abbrev T_z80z : Type 1 := List UInt8 → List UInt8 → {R : Type} → (List UInt8 → List UInt8 → Bool → Option R) → Option R
structure C_z80z where
 N : Nat
 stringslite_Index : T_stringslite_Index
def z80z_ (g : C_z80z) (a1 a2 : List UInt8) {R : Type} (k0 : List UInt8 → List UInt8 → Bool → Option R) : Option R :=
 (g.stringslite_Index a1 a2 (fun r3 => (bif (decide (r3 ≥ 0)) then (bif (decide (0 ≤ r3) && decide (r3 ≤ (a1.length : Int))) then (bif (decide (0 ≤ (w64 (r3 + (a2.length : Int)))) && decide ((w64 (r3 + (a2.length : Int))) ≤ (a1.length : Int))) then k0 (a1.take (r3 : Int).toNat) (a1.drop ((w64 (r3 + (a2.length : Int))) : Int).toNat) true else none) else none) else k0 a1 [] false)))
noncomputable def I_z80z [Fuel] : C_z80z := ⟨NN, @stringslite_Index _⟩
noncomputable def z80z [Fuel] : T_z80z := @z80z_ I_z80z
def SS_z80z (g : T_z80z) : Spec A := fun args => match args with | [.d (.str a1), .d (.str a2)] => fun k => g a1 a2 (fun z0 z1 z2 => k (.tup [.d (.str z0), .d (.str z1), .d (.bool z2)]) [.undef, .undef]) | _ => fun _ => none
noncomputable def code_160 : Code := (Tryz.f160.body).getD .skip
noncomputable def E_z80z (g : C_z80z) : Env A := mkE [(186, SS_stringslite_Index g.stringslite_Index)] [] [] [] [] [] [] [] [] []
theorem sm_z80z (g : C_z80z) : Same (SS_z80z (@z80z_ g)) (abody (E_z80z g) Tryz.f160 code_160 0 [] [.asis, .asis, .asis] g.N) := by intro args; unfold SS_z80z; split; exact .inr fun R k => (by kernel_rfl); exact .inl fun R k => rfl
theorem ok_z80z [Fuel] : Ok 160 (SS_z80z (@z80z _)) := okF_of std (.cons ok_stringslite_Index .nil) ⟨rfl, rfl, by kernel_rfl, rfl, rfl, rfl⟩ (sm_z80z I_z80z) (cuts0 (fun _ => rfl) (by kernel_rfl)) Tryz.func160 (by kernel_rfl) (by kernel_rfl)
abbrev T_z84z : Type 1 := List UInt8 → List UInt8 → {R : Type} → (List UInt8 → List UInt8 → Bool → Option R) → Option R
structure C_z84z where
 N : Nat
 z80z : T_z80z
def z84z_ (g : C_z84z) (a1 a2 : List UInt8) {R : Type} (k0 : List UInt8 → List UInt8 → Bool → Option R) : Option R :=
 (g.z80z a1 a2 (fun r3 r4 r5 => k0 r3 r4 r5))
noncomputable def I_z84z [Fuel] : C_z84z := ⟨NN, @z80z _⟩
noncomputable def z84z [Fuel] : T_z84z := @z84z_ I_z84z
def SS_z84z (g : T_z84z) : Spec A := fun args => match args with | [.d (.str a1), .d (.str a2)] => fun k => g a1 a2 (fun z0 z1 z2 => k (.tup [.d (.str z0), .d (.str z1), .d (.bool z2)]) [.undef, .undef]) | _ => fun _ => none
noncomputable def code_132 : Code := (Tryz.f132.body).getD .skip
noncomputable def E_z84z (g : C_z84z) : Env A := mkE [(160, SS_z80z g.z80z)] [] [] [] [] [] [] [] [] []
theorem sm_z84z (g : C_z84z) : Same (SS_z84z (@z84z_ g)) (abody (E_z84z g) Tryz.f132 code_132 0 [] [.asis, .asis, .asis] g.N) := by intro args; unfold SS_z84z; split; exact .inr fun R k => (by kernel_rfl); exact .inl fun R k => rfl
theorem ok_z84z [Fuel] : Ok 132 (SS_z84z (@z84z _)) := okF_of std (.cons ok_z80z .nil) ⟨rfl, rfl, by kernel_rfl, rfl, rfl, rfl⟩ (sm_z84z I_z84z) (cuts0 (fun _ => rfl) (by kernel_rfl)) Tryz.func132 (by kernel_rfl) (by kernel_rfl)
abbrev T_strings_IndexRune : Type 1 := List UInt8 → Int → {R : Type} → (Int → Option R) → Option R
def strings_IndexRune [Fuel] : T_strings_IndexRune := @X_ixr
def SS_strings_IndexRune (g : T_strings_IndexRune) : Spec A := SSX_ixr g
theorem ok_strings_IndexRune [Fuel] : Ok 170 (SS_strings_IndexRune (@strings_IndexRune _)) := ⟨ssx_ixr_sound (ixr_sound (fun s r w h0 h1 => Any.strings_IndexRune_ascii Tryz.lays152 s r w h0 h1)), ssx_ixr_nat, enters_of (fn := Tryz.f170) Tryz.func170 (by kernel_rfl) (by kernel_rfl)⟩
abbrev T_z68z : Type 1 := Int → {R : Type} → (Bool → Option R) → Option R
def z68z_ (g : Nat) (a1 : Int) {R : Type} (k0 : Bool → Option R) : Option R :=
 k0 (decide (a1 > 8))
noncomputable def z68z [Fuel] : T_z68z := @z68z_ NN
def SS_z68z (g : T_z68z) : Spec A := fun args => match args with | [.d (.int .i64 a1)] => fun k => g a1 (fun z0 => k (.d (.bool z0)) [.undef]) | _ => fun _ => none
noncomputable def code_187 : Code := (Tryz.f187.body).getD .skip
noncomputable def E_z68z (g : Nat) : Env A := mkE [] [] [] [] [] [] [] [] [] []
theorem sm_z68z (g : Nat) : Same (SS_z68z (@z68z_ g)) (abody (E_z68z g) Tryz.f187 code_187 0 [] [.asis] g) := by intro args; unfold SS_z68z; split; exact .inr fun R k => (by kernel_rfl); exact .inl fun R k => rfl
theorem ok_z68z [Fuel] : Ok 187 (SS_z68z (@z68z _)) := okF_of std .nil ⟨rfl, rfl, by kernel_rfl, rfl, rfl, rfl⟩ (sm_z68z NN) (cuts0 (fun _ => rfl) (by kernel_rfl)) Tryz.func187 (by kernel_rfl) (by kernel_rfl)
abbrev T_z72z : Type 1 := List UInt8 → {R : Type} → Option R
def z72z_ (g : Nat) (a1 : List UInt8) {R : Type}  : Option R :=
 none
noncomputable def z72z [Fuel] : T_z72z := @z72z_ NN
def SS_z72z (g : T_z72z) : Spec A := fun args => match args with | [.d (.str a1)] => fun k => g a1 | _ => fun _ => none
noncomputable def code_119 : Code := (Tryz.f119.body).getD .skip
noncomputable def E_z72z (g : Nat) : Env A := mkE [] [] [] [] [] [] [] [] [] []
noncomputable def cb_z72z_L2 : Code := sub [1, 0, 1, 0, 0] code_119
theorem lf_z72z_L2 [Fuel] : LoopFine (E_z72z NN) NN cb_z72z_L2 := no_loop (by kernel_rfl)
theorem sm_z72z (g : Nat) : Same (SS_z72z (@z72z_ g)) (abody (E_z72z g) Tryz.f119 code_119 0 [] [.asis, .asis] g) := by intro args; unfold SS_z72z; split; exact .inr fun R k => (by kernel_rfl); exact .inl fun R k => rfl
theorem ok_z72z [Fuel] : Ok 119 (SS_z72z (@z72z _)) := okF_of std .nil ⟨rfl, rfl, by kernel_rfl, rfl, rfl, rfl⟩ (sm_z72z NN) (cutsL (fun _ => rfl) (.cons lf_z72z_L2 .nil) (by kernel_rfl)) Tryz.func119 (by kernel_rfl) (by kernel_rfl)
abbrev T_z91z : Type 1 := Int → {R : Type} → Option R
def z91z_ (g : Nat) (a1 : Int) {R : Type}  : Option R :=
 none
noncomputable def z91z [Fuel] : T_z91z := @z91z_ NN
def SS_z91z (g : T_z91z) : Spec A := fun args => match args with | [.d (.int .u8 a1)] => fun k => g a1 | _ => fun _ => none
noncomputable def code_171 : Code := (Tryz.f171.body).getD .skip
noncomputable def E_z91z (g : Nat) : Env A := mkE [] [] [] [] [] [] [] [] [] []
theorem sm_z91z (g : Nat) : Same (SS_z91z (@z91z_ g)) (abody (E_z91z g) Tryz.f171 code_171 0 [] [.asis] g) := by intro args; unfold SS_z91z; split; exact .inr fun R k => (by kernel_rfl); exact .inl fun R k => rfl
theorem ok_z91z [Fuel] : Ok 171 (SS_z91z (@z91z _)) := okF_of std .nil ⟨rfl, rfl, by kernel_rfl, rfl, rfl, rfl⟩ (sm_z91z NN) (cuts0 (fun _ => rfl) (by kernel_rfl)) Tryz.func171 (by kernel_rfl) (by kernel_rfl)
abbrev T_z65z : Type 1 := List UInt8 → {R : Type} → (Int → Int → Option R) → Option R
def z65z_ (g : Nat) (a1 : List UInt8) {R : Type} (k0 : Int → Int → Option R) : Option R :=
 (bif (decide ((a1.length : Int) < 1)) then k0 65533 0 else (at_ a1 0 fun x2 => none))
noncomputable def z65z [Fuel] : T_z65z := @z65z_ NN
def SS_z65z (g : T_z65z) : Spec A := fun args => match args with | [.d (.str a1)] => fun k => g a1 (fun z0 z1 => k (.tup [.d (.int .i32 z0), .d (.int .i64 z1)]) [.undef]) | _ => fun _ => none
noncomputable def code_169 : Code := (Tryz.f169.body).getD .skip
noncomputable def E_z65z (g : Nat) : Env A := mkE [] [] [] [] [] [] [] [] [] []
theorem sm_z65z (g : Nat) : Same (SS_z65z (@z65z_ g)) (abody (E_z65z g) Tryz.f169 code_169 0 [] [.asis, .asis] g) := by intro args; unfold SS_z65z; split; exact .inr fun R k => (by kernel_rfl); exact .inl fun R k => rfl
theorem ok_z65z [Fuel] : Ok 169 (SS_z65z (@z65z _)) := okF_of std .nil ⟨rfl, rfl, by kernel_rfl, rfl, rfl, rfl⟩ (sm_z65z NN) (cuts0 (fun _ => rfl) (by kernel_rfl)) Tryz.func169 (by kernel_rfl) (by kernel_rfl)
abbrev T_z59z : Type 1 := List UInt8 → {R : Type} → (Int → Int → Option R) → Option R
structure C_z59z where
 N : Nat
 z65z : T_z65z
def z59z_ (g : C_z59z) (a1 : List UInt8) {R : Type} (k0 : Int → Int → Option R) : Option R :=
 (bif (!(a1 == [])) then (at_ a1 0 fun x2 => (bif (decide ((x2.toNat : Int) < 128)) then (at_ a1 0 fun x3 => k0 (IntKind.i32.wrap (x3.toNat : Int)) 1) else (g.z65z a1 (fun r4 r5 => k0 r4 r5)))) else (g.z65z a1 (fun r6 r7 => k0 r6 r7)))
noncomputable def I_z59z [Fuel] : C_z59z := ⟨NN, @z65z _⟩
noncomputable def z59z [Fuel] : T_z59z := @z59z_ I_z59z
def SS_z59z (g : T_z59z) : Spec A := fun args => match args with | [.d (.str a1)] => fun k => g a1 (fun z0 z1 => k (.tup [.d (.int .i32 z0), .d (.int .i64 z1)]) [.undef]) | _ => fun _ => none
noncomputable def code_144 : Code := (Tryz.f144.body).getD .skip
noncomputable def E_z59z (g : C_z59z) : Env A := mkE [(169, SS_z65z g.z65z)] [] [] [] [] [] [] [] [] []
theorem sm_z59z (g : C_z59z) : Same (SS_z59z (@z59z_ g)) (abody (E_z59z g) Tryz.f144 code_144 0 [] [.asis, .asis] g.N) := by intro args; unfold SS_z59z; split; exact .inr fun R k => (by kernel_rfl); exact .inl fun R k => rfl
theorem ok_z59z [Fuel] : Ok 144 (SS_z59z (@z59z _)) := okF_of std (.cons ok_z65z .nil) ⟨rfl, rfl, by kernel_rfl, rfl, rfl, rfl⟩ (sm_z59z I_z59z) (cuts0 (fun _ => rfl) (by kernel_rfl)) Tryz.func144 (by kernel_rfl) (by kernel_rfl)
abbrev T_z17z : Type 1 := List UInt8 → {R : Type} → (Int → Int → Option R) → Option R
structure C_z17z where
 N : Nat
 z59z : T_z59z
 z91z : T_z91z
def z17z_L10 (g : C_z17z) : Nat → List UInt8 → Int → Int → Int → {R : Type} → (List UInt8 → Int → Int → Option R) → Option R
 | 0, _, _, _, _, _, _ => none
 | n + 1, v3, v4, v5, v6, _, e0 => (bif (decide (v5 ≥ v6)) then (get_ v3 v5 fun x8 => (g.z91z (x8.toNat : Int))) else e0 v3 v4 v5)
def z17z_ (g : C_z17z) (a1 : List UInt8) {R : Type} (k0 : Int → Int → Option R) : Option R :=
 (bif ((a1.length : Int) == 0) then k0 65533 0 else (get_ a1 (w64 ((a1.length : Int) - 1)) fun x2 => (bif (decide ((IntKind.i32.wrap (x2.toNat : Int)) < 128)) then k0 (IntKind.i32.wrap (x2.toNat : Int)) 1 else (z17z_L10 g g.N a1 (a1.length : Int) (w64 ((w64 ((a1.length : Int) - 1)) - 1)) (if 0 > (w64 ((a1.length : Int) - 4)) then 0 else (w64 ((a1.length : Int) - 4))) (fun e9 e10 e11 => (bif (decide (e11 < 0)) then (bif (decide (0 ≤ 0) && (decide (0 ≤ e10) && decide (e10 ≤ (e9.length : Int)))) then (g.z59z ((e9.take (e10 : Int).toNat).drop (0 : Int).toNat) (fun r12 r13 => (bif ((w64 (0 + r13)) != e10) then k0 65533 1 else k0 r12 r13))) else none) else (bif (decide (0 ≤ e11) && (decide (e11 ≤ e10) && decide (e10 ≤ (e9.length : Int)))) then (g.z59z ((e9.take (e10 : Int).toNat).drop (e11 : Int).toNat) (fun r14 r15 => (bif ((w64 (e11 + r15)) != e10) then k0 65533 1 else k0 r14 r15))) else none)))))))
noncomputable def I_z17z [Fuel] : C_z17z := ⟨NN, @z59z _, @z91z _⟩
noncomputable def z17z [Fuel] : T_z17z := @z17z_ I_z17z
def SS_z17z (g : T_z17z) : Spec A := fun args => match args with | [.d (.str a1)] => fun k => g a1 (fun z0 z1 => k (.tup [.d (.int .i32 z0), .d (.int .i64 z1)]) [.undef]) | _ => fun _ => none
def sh_z17z_L10 : SSt := mkSh 51 0 [(0, .str), (4, .int .i64), (5, .int .i64), (6, .int .i64)] []
def LP_z17z_L10 (g : C_z17z) (n : Nat) : LPT A := fun ps => match ps with | [.d (.str p1), .d (.int .i64 p2), .d (.int .i64 p3), .d (.int .i64 p4)] => fun K => z17z_L10 g n p1 p2 p3 p4 (fun z0 z1 z2 => K (.exit 0) (mkSt 51 0 [(0, .d (.str z0)), (4, .d (.int .i64 z1)), (5, .d (.int .i64 z2))] [])) | _ => fun _ => none
noncomputable def code_146 : Code := (Tryz.f146.body).getD .skip
noncomputable def E_z17z (g : C_z17z) : Env A := mkE [(144, SS_z59z g.z59z), (171, SS_z91z g.z91z)] [] [(10, ⟨[0, 4, 5, 6], [], [], [], [], []⟩)] [(10, ⟨[0, 4, 5], [], [], [], [], []⟩)] [(10, pieceOf sh_z17z_L10 (LP_z17z_L10 g g.N))] [] [] [] [] []
theorem ct_z17z [Fuel] : NatTab (E_z17z I_z17z).C := ct_of (P := Tryz.prog) (T := T) (.cons ok_z59z (.cons ok_z91z .nil)) (by kernel_rfl)
noncomputable def cb_z17z_L10 : Code := sub [1, 1, 1, 1, 1, 1, 1, 0, 1, 0, 0] code_146
theorem s_z17z_L10 (g : C_z17z) (n : Nat) : StepOk (E_z17z g) g.N cb_z17z_L10 sh_z17z_L10 (LP_z17z_L10 g) n := by intro ps; unfold LP_z17z_L10; split; exact .inr fun R K => (by kernel_rfl); exact .inl fun R K => rfl
theorem lf_z17z_L10 [Fuel] : LoopFine (E_z17z I_z17z) NN cb_z17z_L10 := fine_loop sh_z17z_L10 (LP_z17z_L10 I_z17z) (by kernel_rfl) ct_z17z (cuts0 (fun _ => rfl) (by kernel_rfl)) (fun ps R K => by unfold LP_z17z_L10; split <;> (try unfold z17z_L10) <;> rfl) (s_z17z_L10 I_z17z)
theorem sm_z17z (g : C_z17z) : Same (SS_z17z (@z17z_ g)) (abody (E_z17z g) Tryz.f146 code_146 0 [] [.asis, .asis] g.N) := by intro args; unfold SS_z17z; split; exact .inr fun R k => (by kernel_rfl); exact .inl fun R k => rfl
theorem ok_z17z [Fuel] : Ok 146 (SS_z17z (@z17z _)) := okF_of std (.cons ok_z59z (.cons ok_z91z .nil)) ⟨rfl, rfl, by kernel_rfl, rfl, rfl, rfl⟩ (sm_z17z I_z17z) (cutsL (fun _ => rfl) (.cons lf_z17z_L10 .nil) (by kernel_rfl)) Tryz.func146 (by kernel_rfl) (by kernel_rfl)
end Go.Am
