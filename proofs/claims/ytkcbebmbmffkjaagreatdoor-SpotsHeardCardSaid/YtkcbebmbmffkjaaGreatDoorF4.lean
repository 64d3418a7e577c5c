/- The functions of the program as Lean functions, each shown to be what the code computes, part 4. No condition: lemmas for the claim. -/
import Derived.Test.YtkcbebmbmffkjaaGreatDoorF0
import Derived.Test.YtkcbebmbmffkjaaGreatDoorFSh
import Derived.Test.YtkcbebmbmffkjaaGreatDoorF1
import Derived.Test.YtkcbebmbmffkjaaGreatDoorF2
import Derived.Test.YtkcbebmbmffkjaaGreatDoorF3
set_option linter.unusedVariables false
set_option maxRecDepth 100000
namespace Go.Am
open Go Go.Proofs
abbrev T_z54z : Type 1 := List Int → {R : Type} → (Int → Option R) → Option R
def z54z_L3 (g : Nat) : Nat → Int → List Int → Int → Int → {R : Type} → (Int → Int → Option R) → (Int → Option R) → Option R
 | 0, _, _, _, _, _, _, _ => none
 | n + 1, v2, v3, v4, v5, _, e0, e1 => (bif (decide (v5 < v4)) then (get_ v3 v5 fun x7 => (bif (x7 != v2) then e0 x7 v2 else z54z_L3 g n v2 v3 v4 (w64 (v5 + 1)) e0 e1)) else e1 v2)
def z54z_ (g : Nat) (a1 : List Int) {R : Type} (k0 : Int → Option R) : Option R :=
 (z54z_L3 g g 0 a1 (a1.length : Int) 0 (fun e8 e9 => k0 e8) (fun e10 => k0 e10))
noncomputable def z54z [Fuel] : T_z54z := @z54z_ NN
def SS_z54z (g : T_z54z) : Spec A := fun args => match args with | [.d (.sl 3 a1)] => fun k => g a1 (fun z0 => k (.d (.int .i64 z0)) [.undef]) | _ => fun _ => none
def sh_z54z_L3 : SSt := mkSh 18 0 [(3, .int .i64), (6, .sl 3), (7, .int .i64), (8, .int .i64)] []
def LP_z54z_L3 (g : Nat) (n : Nat) : LPT A := fun ps => match ps with | [.d (.int .i64 p1), .d (.sl 3 p2), .d (.int .i64 p3), .d (.int .i64 p4)] => fun K => z54z_L3 g n p1 p2 p3 p4 (fun z0 z1 => K .ret (mkSt 18 0 [(2, .d (.int .i64 z0)), (3, .d (.int .i64 z1))] [])) (fun z0 => K (.exit 0) (mkSt 18 0 [(3, .d (.int .i64 z0))] [])) | _ => fun _ => none
noncomputable def code_123 : Code := (Tryz.f123.body).getD .skip
noncomputable def E_z54z (g : Nat) : Env A := mkE [] [] [(3, ⟨[3, 6, 7, 8], [], [], [], [], [], []⟩)] [(3, ⟨[2, 3], [], [], [], [], [], []⟩)] [(3, pieceOf sh_z54z_L3 (LP_z54z_L3 g g))] [] [] [] [] []
theorem ct_z54z [Fuel] : NatTab (E_z54z NN).C := ct_of (P := Tryz.prog) (T := T) .nil (by kernel_rfl)
noncomputable def cb_z54z_L3 : Code := sub [1, 1, 0, 1, 0, 0] code_123
theorem s_z54z_L3 (g : Nat) (n : Nat) : StepOk (E_z54z g) g cb_z54z_L3 sh_z54z_L3 (LP_z54z_L3 g) n := by intro ps; unfold LP_z54z_L3; split; exact .inr fun R K => (by kernel_rfl); exact .inl fun R K => rfl
theorem lf_z54z_L3 [Fuel] : LoopFine (E_z54z NN) NN cb_z54z_L3 := fine_loop sh_z54z_L3 (LP_z54z_L3 NN) (by kernel_rfl) ct_z54z (cuts0 (fun _ => rfl) (by kernel_rfl)) (fun ps R K => by unfold LP_z54z_L3; split <;> (try unfold z54z_L3) <;> rfl) (s_z54z_L3 NN)
theorem sm_z54z (g : Nat) : Same (SS_z54z (@z54z_ g)) (abody (E_z54z g) Tryz.f123 code_123 0 [] [.asis] g) := by intro args; unfold SS_z54z; split; exact .inr fun R k => (by kernel_rfl); exact .inl fun R k => rfl
theorem ok_z54z [Fuel] : Ok 123 (SS_z54z (@z54z _)) := okF_of std .nil ⟨rfl, rfl, by kernel_rfl, rfl, rfl, rfl⟩ (sm_z54z NN) (cutsL (fun _ => rfl) (.cons lf_z54z_L3 .nil) (by kernel_rfl)) Tryz.func123 (by kernel_rfl) (by kernel_rfl)
noncomputable def Ed_z54z (g : Nat) : Env A := mkED [] [] [(3, ⟨[3, 6, 7, 8], [], [], [], [], [], []⟩)] [(3, ⟨[2, 3], [], [], [], [], [], []⟩)] [(3, pieceOf sh_z54z_L3 (LP_z54z_L3 g g))] [] [] [] [] []
theorem ctd_z54z [Fuel] : NatTab (Ed_z54z NN).C := ct_of (P := Tryz.prog) (T := TD) .nil (by kernel_rfl)
theorem sd_z54z_L3 (g : Nat) (n : Nat) : StepOk (Ed_z54z g) g cb_z54z_L3 sh_z54z_L3 (LP_z54z_L3 g) n := by intro ps; unfold LP_z54z_L3; split; exact .inr fun R K => (by kernel_rfl); exact .inl fun R K => rfl
theorem lfd_z54z_L3 [Fuel] : LoopFine (Ed_z54z NN) NN cb_z54z_L3 := fine_loop sh_z54z_L3 (LP_z54z_L3 NN) (by kernel_rfl) ctd_z54z (cuts0 (fun _ => rfl) (by kernel_rfl)) (fun ps R K => by unfold LP_z54z_L3; split <;> (try unfold z54z_L3) <;> rfl) (sd_z54z_L3 NN)
theorem smd_z54z (g : Nat) : Same (SS_z54z (@z54z_ g)) (abody (Ed_z54z g) Tryz.f123 code_123 0 [] [.asis] g) := by intro args; unfold SS_z54z; split; exact .inr fun R k => (by kernel_rfl); exact .inl fun R k => rfl
theorem okd_z54z [Fuel] : OkD 123 (SS_z54z (@z54z _)) := okF_of stdD .nil ⟨rfl, rfl, by kernel_rfl, rfl, rfl, rfl⟩ (smd_z54z NN) (cutsL (fun _ => rfl) (.cons lfd_z54z_L3 .nil) (by kernel_rfl)) Tryz.func123 (by kernel_rfl) (by kernel_rfl)
abbrev T_z32z : Type 1 := G_Spot → G_Spot → {R : Type} → (Int → Option R) → Option R
structure C_z32z where
 N : Nat
 strings_Compare : T_strings_Compare
 z54z : T_z54z
 z47z : T_z47z
def z32z_ (g : C_z32z) (a1 a2 : G_Spot) {R : Type} (k0 : Int → Option R) : Option R :=
 (g.z47z a1.f_At a2.f_At (fun r3 => (g.z47z a1.f_Hertz a2.f_Hertz (fun r4 => (g.strings_Compare a1.f_Call a2.f_Call (fun r5 => (g.strings_Compare a1.f_By a2.f_By (fun r6 => (g.z54z [r3, r4, r5, r6] (fun r7 => k0 r7))))))))))
noncomputable def I_z32z [Fuel] : C_z32z := ⟨NN, @strings_Compare _, @z54z _, @z47z _⟩
noncomputable def z32z [Fuel] : T_z32z := @z32z_ I_z32z
def SS_z32z (g : T_z32z) : Spec A := fun args => match args with | [.agg [.d (.int .i64 a1), .d (.int .i64 a2), .d (.str a3), .d (.str a4)], .agg [.d (.int .i64 a5), .d (.int .i64 a6), .d (.str a7), .d (.str a8)]] => fun k => g ⟨a1, a2, a3, a4⟩ ⟨a5, a6, a7, a8⟩ (fun z0 => k (.d (.int .i64 z0)) [.undef, .undef]) | _ => fun _ => none
noncomputable def code_76 : Code := (Tryz.f76.body).getD .skip
noncomputable def E_z32z (g : C_z32z) : Env A := mkE [(93, SS_strings_Compare g.strings_Compare), (123, SS_z54z g.z54z), (124, SS_z47z g.z47z)] [(2, [0]), (3, [1]), (25, [2])] [] [] [] [] [] [] [] []
theorem sm_z32z (g : C_z32z) : Same (SS_z32z (@z32z_ g)) (abody (E_z32z g) Tryz.f76 code_76 3 [] [.asis] g.N) := by intro args; unfold SS_z32z; split; exact .inr fun R k => (by kernel_rfl); exact .inl fun R k => rfl
theorem ok_z32z [Fuel] : Ok 76 (SS_z32z (@z32z _)) := okF_of std (.cons ok_strings_Compare (.cons ok_z54z (.cons ok_z47z .nil))) ⟨rfl, rfl, by kernel_rfl, rfl, rfl, rfl⟩ (sm_z32z I_z32z) (cuts0 (fun _ => rfl) (by kernel_rfl)) Tryz.func76 (by kernel_rfl) (by kernel_rfl)
noncomputable def Ed_z32z (g : C_z32z) : Env A := mkED [(93, SS_strings_Compare g.strings_Compare), (123, SS_z54z g.z54z), (124, SS_z47z g.z47z)] [(2, [0]), (3, [1]), (25, [2])] [] [] [] [] [] [] [] []
theorem smd_z32z (g : C_z32z) : Same (SS_z32z (@z32z_ g)) (abody (Ed_z32z g) Tryz.f76 code_76 3 [] [.asis] g.N) := by intro args; unfold SS_z32z; split; exact .inr fun R k => (by kernel_rfl); exact .inl fun R k => rfl
theorem okd_z32z [Fuel] : OkD 76 (SS_z32z (@z32z _)) := okF_of stdD (.cons okd_strings_Compare (.cons okd_z54z (.cons okd_z47z .nil))) ⟨rfl, rfl, by kernel_rfl, rfl, rfl, rfl⟩ (smd_z32z I_z32z) (cuts0 (fun _ => rfl) (by kernel_rfl)) Tryz.func76 (by kernel_rfl) (by kernel_rfl)
abbrev T_z31z : Type 1 := List G_Spot → {R : Type} → (Int → Option R) → Option R
structure C_z31z where
 N : Nat
 z32z : T_z32z
 z73z : T_z73z
 z62z : T_z62z
 call_Is : T_call_Is
def z31z_L4 (g : C_z31z) : Nat → List G_Spot → List G_Spot → Int → Int → {R : Type} → (Int → Option R) → Option R → Option R
 | 0, _, _, _, _, _, _, _ => none
 | n + 1, v2, v3, v4, v5, _, e0, e1 => (bif (decide (v5 < v4)) then (get_ v3 v5 fun x13 => (g.z73z x13.f_At (fun r14 => (bif (!r14) then e0 1 else (g.z62z x13.f_Hertz 0 30000000000 (fun r15 => (bif r15 then e0 1 else (g.call_Is x13.f_Call (fun r16 => (bif (!r16) then e0 3 else (g.call_Is x13.f_By (fun r17 => (bif (!r17) then e0 3 else (bif (decide (v5 > 0)) then (get_ v2 (w64 (v5 - 1)) fun x18 => (g.z32z x18 x13 (fun r19 => (bif (decide (r19 ≥ 0)) then e0 7 else z31z_L4 g n v2 v3 v4 (w64 (v5 + 1)) e0 e1)))) else z31z_L4 g n v2 v3 v4 (w64 (v5 + 1)) e0 e1)))))))))))))) else e1)
def z31z_ (g : C_z31z) (a1 : List G_Spot) {R : Type} (k0 : Int → Option R) : Option R :=
 (bif (decide ((a1.length : Int) > 2000)) then k0 2 else (z31z_L4 g g.N a1 a1 (a1.length : Int) 0 (fun e20 => k0 e20) (k0 0)))
noncomputable def I_z31z [Fuel] : C_z31z := ⟨NN, @z32z _, @z73z _, @z62z _, @call_Is _⟩
noncomputable def z31z [Fuel] : T_z31z := @z31z_ I_z31z
def SS_z31z (g : T_z31z) : Spec A := fun args => match args with | [.d (.sl 52 a1)] => fun k => g a1 (fun z0 => k (.d (.int .i64 z0)) [.undef]) | _ => fun _ => none
def sh_z31z_L4 : SSt := mkSh 50 1 [(0, .sl 52), (8, .sl 52), (9, .int .i64), (10, .int .i64)] []
def LP_z31z_L4 (g : C_z31z) (n : Nat) : LPT A := fun ps => match ps with | [.d (.sl 52 p1), .d (.sl 52 p2), .d (.int .i64 p3), .d (.int .i64 p4)] => fun K => z31z_L4 g n p1 p2 p3 p4 (fun z0 => K .ret (mkSt 50 1 [(2, .d (.int .i64 z0))] [])) (K (.exit 0) (mkSt 50 1 [] [])) | _ => fun _ => none
noncomputable def code_31 : Code := (Tryz.f31.body).getD .skip
noncomputable def E_z31z (g : C_z31z) : Env A := mkE [(76, SS_z32z g.z32z), (85, SS_z73z g.z73z), (86, SS_z62z g.z62z), (87, SS_call_Is g.call_Is)] [(4, [0])] [(4, ⟨[0, 8, 9, 10], [], [], [], [], [], []⟩)] [(4, ⟨[2], [], [], [], [], [], []⟩)] [(4, pieceOf sh_z31z_L4 (LP_z31z_L4 g g.N))] [] [] [] [] []
theorem ct_z31z [Fuel] : NatTab (E_z31z I_z31z).C := ct_of (P := Tryz.prog) (T := T) (.cons ok_z32z (.cons ok_z73z (.cons ok_z62z (.cons ok_call_Is .nil)))) (by kernel_rfl)
noncomputable def cb_z31z_L4 : Code := sub [1, 1, 0, 1, 0, 0] code_31
theorem s_z31z_L4 (g : C_z31z) (n : Nat) : StepOk (E_z31z g) g.N cb_z31z_L4 sh_z31z_L4 (LP_z31z_L4 g) n := by intro ps; unfold LP_z31z_L4; split; exact .inr fun R K => (by kernel_rfl); exact .inl fun R K => rfl
theorem lf_z31z_L4 [Fuel] : LoopFine (E_z31z I_z31z) NN cb_z31z_L4 := fine_loop sh_z31z_L4 (LP_z31z_L4 I_z31z) (by kernel_rfl) ct_z31z (cuts0 (fun _ => rfl) (by kernel_rfl)) (fun ps R K => by unfold LP_z31z_L4; split <;> (try unfold z31z_L4) <;> rfl) (s_z31z_L4 I_z31z)
theorem sm_z31z (g : C_z31z) : Same (SS_z31z (@z31z_ g)) (abody (E_z31z g) Tryz.f31 code_31 1 [] [.asis] g.N) := by intro args; unfold SS_z31z; split; exact .inr fun R k => (by kernel_rfl); exact .inl fun R k => rfl
theorem ok_z31z [Fuel] : Ok 31 (SS_z31z (@z31z _)) := okF_of std (.cons ok_z32z (.cons ok_z73z (.cons ok_z62z (.cons ok_call_Is .nil)))) ⟨rfl, rfl, by kernel_rfl, rfl, rfl, rfl⟩ (sm_z31z I_z31z) (cutsL (fun _ => rfl) (.cons lf_z31z_L4 .nil) (by kernel_rfl)) Tryz.func31 (by kernel_rfl) (by kernel_rfl)
abbrev T_z79z : Type 1 := Int → {R : Type} → (List G_Spot → Option R) → Option R
def z79z [Fuel] : T_z79z := @X_grow G_Spot 48
def SS_z79z (g : T_z79z) : Spec A := fun args => match args with | [.d .nsl, .d (.int .i64 x1)] => fun k => g x1 (fun z => k (.arr 52 z) [.undef, .undef]) | _ => fun _ => none
theorem h1_z79z [Fuel] (xs : Int) (R : Type) (k : IV A → List (IV A) → Option R) : SS_z79z (@z79z _) [.d .nsl, .d (.int .i64 xs)] k = X_grow (α := A 52) 48 xs (fun z => k (.arr 52 z) [.undef, .undef]) := by kernel_rfl
theorem h2_z79z [Fuel] (args : List (IV A)) (R : Type) (k : IV A → List (IV A) → Option R) (h : ∀ xs : Int, args ≠ [.d .nsl, .d (.int .i64 xs)]) : SS_z79z (@z79z _) args k = none := by unfold SS_z79z; split; exact absurd rfl (h _); rfl
theorem ok_z79z [Fuel] : Ok 120 (SS_z79z (@z79z _)) := ⟨grow_fs (grow_sound rfl (tyOk Tryz.prog) (e := 52) (size := 4) (bytes := 48) (ty := 52) (by kernel_rfl) (fun w => grow_0 Tryz.grow120 w) (fun n w hn hb hm => grow_h Tryz.grow120 Tryz.ti52 Tryz.zv52 (by kernel_rfl) (by kernel_rfl) 4 48 (by kernel_rfl) (by kernel_rfl) (by decide) (by kernel_rfl) n w hn hb hm)) h1_z79z h2_z79z, grow_na h1_z79z h2_z79z, enters_of (fn := Tryz.f120) Tryz.func120 (by kernel_rfl) (by kernel_rfl)⟩
abbrev T_z23z : Type 1 := List (List G_Spot) → {R : Type} → (List G_Spot → Option R) → Option R
structure C_z23z where
 N : Nat
 z79z : T_z79z
def z23z_L3 (g : C_z23z) : Nat → List (List G_Spot) → Int → List (List G_Spot) → Int → Int → {R : Type} → (List (List G_Spot) → Int → Option R) → Option R
 | 0, _, _, _, _, _, _, _ => none
 | n + 1, v2, v3, v4, v5, v6, _, e0 => (bif (decide (v6 < v5)) then (get_ v4 v6 fun x8 => (bif (decide ((w64 (v3 + (x8.length : Int))) < 0)) then none else z23z_L3 g n v2 (w64 (v3 + (x8.length : Int))) v4 v5 (w64 (v6 + 1)) e0)) else e0 v2 v3)
def z23z_L11 (g : C_z23z) : Nat → List (List G_Spot) → Int → Int → List G_Spot → {R : Type} → (List G_Spot → Option R) → Option R
 | 0, _, _, _, _, _, _ => none
 | n + 1, v12, v13, v14, v15, _, e0 => (bif (decide (v14 < v13)) then (get_ v12 v14 fun x17 => (bif (decide ((v15.length + x17.length) * 48 ≤ roomBytes')) then z23z_L11 g n v12 v13 (w64 (v14 + 1)) (v15 ++ x17) e0 else none)) else e0 v15)
def z23z_ (g : C_z23z) (a1 : List (List G_Spot)) {R : Type} (k0 : List G_Spot → Option R) : Option R :=
 (z23z_L3 g g.N a1 0 a1 (a1.length : Int) 0 (fun e9 e10 => (g.z79z e10 (fun r11 => (z23z_L11 g g.N e9 (e9.length : Int) 0 r11 (fun e18 => k0 e18))))))
noncomputable def I_z23z [Fuel] : C_z23z := ⟨NN, @z79z _⟩
noncomputable def z23z [Fuel] : T_z23z := @z23z_ I_z23z
def SS_z23z (g : T_z23z) : Spec A := fun args => match args with | [.d (.sl 28 a1)] => fun k => g a1 (fun z0 => k (.arr 52 z0) [.undef]) | _ => fun _ => none
def sh_z23z_L3 : SSt := mkSh 36 3 [(0, .sl 28), (3, .int .i64), (9, .sl 28), (10, .int .i64), (11, .int .i64)] []
def LP_z23z_L3 (g : C_z23z) (n : Nat) : LPT A := fun ps => match ps with | [.d (.sl 28 p1), .d (.int .i64 p2), .d (.sl 28 p3), .d (.int .i64 p4), .d (.int .i64 p5)] => fun K => z23z_L3 g n p1 p2 p3 p4 p5 (fun z0 z1 => K (.exit 0) (mkSt 36 3 [(0, .d (.sl 28 z0)), (3, .d (.int .i64 z1))] [])) | _ => fun _ => none
def sh_z23z_L11 : SSt := mkSh 36 3 [(6, .own 52 1), (25, .sl 28), (26, .int .i64), (27, .int .i64)] [(1, .row 52)]
def LP_z23z_L11 (g : C_z23z) (n : Nat) : LPT A := fun ps => match ps with | [.d (.sl 28 p1), .d (.int .i64 p2), .d (.int .i64 p3), .d (.sl 52 p4)] => fun K => z23z_L11 g n p1 p2 p3 p4 (fun z0 => K (.exit 2) (mkSt 36 3 [(6, .own 52 1)] [(1, some (.row 52 z0))])) | _ => fun _ => none
noncomputable def code_74 : Code := (Tryz.f74.body).getD .skip
noncomputable def E_z23z (g : C_z23z) : Env A := mkE [(120, SS_z79z g.z79z)] [(24, [0]), (33, [2])] [(3, ⟨[0, 3, 9, 10, 11], [], [], [], [], [], []⟩), (11, ⟨[6, 25, 26, 27], [(6, 52, 1)], [], [], [], [], []⟩)] [(3, ⟨[0, 3], [], [], [], [], [], []⟩), (11, ⟨[6], [], [1], [], [], [], []⟩)] [(3, pieceOf sh_z23z_L3 (LP_z23z_L3 g g.N)), (11, pieceOf sh_z23z_L11 (LP_z23z_L11 g g.N))] [] [] [] [(120, 0)] []
theorem ct_z23z [Fuel] : NatTab (E_z23z I_z23z).C := ct_of (P := Tryz.prog) (T := T) (.cons ok_z79z .nil) (by kernel_rfl)
noncomputable def cb_z23z_L3 : Code := sub [1, 1, 0, 1, 0, 0] code_74
theorem s_z23z_L3 (g : C_z23z) (n : Nat) : StepOk (E_z23z g) g.N cb_z23z_L3 sh_z23z_L3 (LP_z23z_L3 g) n := by intro ps; unfold LP_z23z_L3; split; exact .inr fun R K => (by kernel_rfl); exact .inl fun R K => rfl
theorem lf_z23z_L3 [Fuel] : LoopFine (E_z23z I_z23z) NN cb_z23z_L3 := fine_loop sh_z23z_L3 (LP_z23z_L3 I_z23z) (by kernel_rfl) ct_z23z (cuts0 (fun _ => rfl) (by kernel_rfl)) (fun ps R K => by unfold LP_z23z_L3; split <;> (try unfold z23z_L3) <;> rfl) (s_z23z_L3 I_z23z)
noncomputable def cb_z23z_L11 : Code := sub [1, 1, 1, 1, 0, 1, 0, 0] code_74
theorem s_z23z_L11 (g : C_z23z) (n : Nat) : StepOk (E_z23z g) g.N cb_z23z_L11 sh_z23z_L11 (LP_z23z_L11 g) n := by intro ps; unfold LP_z23z_L11; split; exact .inr fun R K => (by kernel_rfl); exact .inl fun R K => rfl
theorem lf_z23z_L11 [Fuel] : LoopFine (E_z23z I_z23z) NN cb_z23z_L11 := fine_loop sh_z23z_L11 (LP_z23z_L11 I_z23z) (by kernel_rfl) ct_z23z (cuts0 (fun _ => rfl) (by kernel_rfl)) (fun ps R K => by unfold LP_z23z_L11; split <;> (try unfold z23z_L11) <;> rfl) (s_z23z_L11 I_z23z)
theorem sm_z23z (g : C_z23z) : Same (SS_z23z (@z23z_ g)) (abody (E_z23z g) Tryz.f74 code_74 3 [] [.arr 52] g.N) := by intro args; unfold SS_z23z; split; exact .inr fun R k => (by kernel_rfl); exact .inl fun R k => rfl
theorem ok_z23z [Fuel] : Ok 74 (SS_z23z (@z23z _)) := okF_of std (.cons ok_z79z .nil) ⟨rfl, rfl, by kernel_rfl, rfl, rfl, rfl⟩ (sm_z23z I_z23z) (cutsL (fun _ => rfl) (.cons lf_z23z_L3 (.cons lf_z23z_L11 .nil)) (by kernel_rfl)) Tryz.func74 (by kernel_rfl) (by kernel_rfl)
abbrev T_z46z : Type 1 := List G_Spot → {R : Type} → (List G_Spot → Option R) → Option R
noncomputable def z46z [Fuel] : T_z46z := @X_sortf G_Spot (@z32z _)
def SS_z46z (g : T_z46z) : Spec A := fun args => match args with | [.arr 52 a1, .fn 76 []] => fun k => g a1 (fun z => k (.tup []) [.arr 52 z, .fn 76 []]) | _ => fun _ => none
theorem h1_z46z [Fuel] (xs : List (A 52)) (R : Type) (k : IV A → List (IV A) → Option R) : SS_z46z (@z46z _) [.arr 52 xs, .fn 76 []] k = X_sortf (α := A 52) (@z32z _) xs (fun z => k (.tup []) [.arr 52 z, .fn 76 []]) := by kernel_rfl
theorem h2_z46z [Fuel] (args : List (IV A)) (R : Type) (k : IV A → List (IV A) → Option R) (h : ∀ xs : List (A 52), args ≠ [.arr 52 xs, .fn 76 []]) : SS_z46z (@z46z _) args k = none := by unfold SS_z46z; split; exact absurd rfl (h _); rfl
theorem hc_z46z [Fuel] (x y : A 52) (R : Type) (k : Int → Option R) : callOf T (SS_z32z (@z32z _)) 52 x y k = @z32z _ x y R k := by kernel_rfl
theorem hs_z46z (x : G_Spot) : (enc_e52 x).all scal = true := rfl
theorem ok_z46z [Fuel] : Ok 75 (SS_z46z (@z46z _)) := ⟨sortf_sound (tyOk Tryz.prog) (e := 52) Tryz.sortf75 Tryz.isAgg52 Tryz.sizeOf52 (fun x d hd => List.all_eq_true.1 (hs_z46z x) d hd) hc_z46z okd_z32z.fs okd_z32z.en h1_z46z h2_z46z, sortf_na (e := 52) h1_z46z h2_z46z, enters_of (fn := Tryz.f75) Tryz.func75 (by kernel_rfl) (by kernel_rfl)⟩
abbrev T_band_Merge : Type 1 := List G_Spot → List G_Spot → {R : Type} → (List G_Spot → Int → Option R) → Option R
structure C_band_Merge where
 N : Nat
 z31z : T_z31z
 z26z : T_z26z
 z23z : T_z23z
 z46z : T_z46z
def band_Merge_L2 (g : C_band_Merge) : Nat → List G_Spot → List G_Spot → Int → Int → List (List G_Spot) → {R : Type} → (List G_Spot → List G_Spot → Int → Option R) → (List G_Spot → List G_Spot → Option R) → Option R
 | 0, _, _, _, _, _, _, _, _ => none
 | n + 1, v3, v4, v5, v6, v7, _, e0, e1 => (bif (decide (v6 < v5)) then (inr v7 v6 (at_ v7 v6 fun x10 => (g.z31z x10 (fun r11 => (bif (r11 != 0) then e0 v3 v4 r11 else band_Merge_L2 g n v3 v4 v5 (w64 (v6 + 1)) v7 e0 e1))))) else e1 v3 v4)
def band_Merge_ (g : C_band_Merge) (a1 a2 : List G_Spot) {R : Type} (k0 : List G_Spot → Int → Option R) : Option R :=
 (band_Merge_L2 g g.N a1 a2 ([a1, a2].length : Int) 0 [a1, a2] (fun e12 e13 e14 => k0 [] e14) (fun e15 e16 => (g.z23z [e15, e16] (fun r17 => (g.z46z r17 (fun r18 => (g.z26z r18 (fun r19 => (bif (decide ((r19.length : Int) > 2000)) then k0 [] 2 else k0 r19 0)))))))))
noncomputable def I_band_Merge [Fuel] : C_band_Merge := ⟨NN, @z31z _, @z26z _, @z23z _, @z46z _⟩
noncomputable def band_Merge [Fuel] : T_band_Merge := @band_Merge_ I_band_Merge
def SS_band_Merge (g : T_band_Merge) : Spec A := fun args => match args with | [.d (.sl 52 a1), .d (.sl 52 a2)] => fun k => g a1 a2 (fun z0 z1 => k (.tup [.arr 52 z0, .d (.int .i64 z1)]) [.undef, .undef]) | _ => fun _ => none
def sh_band_Merge_L2 : SSt := mkSh 36 4 [(0, .sl 52), (1, .sl 52), (12, .own 28 0), (13, .int .i64), (14, .int .i64)] [(0, .row 28)]
def LP_band_Merge_L2 (g : C_band_Merge) (n : Nat) : LPT A := fun ps => match ps with | [.d (.sl 52 p1), .d (.sl 52 p2), .d (.int .i64 p3), .d (.int .i64 p4), .d (.sl 28 p5)] => fun K => band_Merge_L2 g n p1 p2 p3 p4 p5 (fun z0 z1 z2 => K .ret (mkSt 36 4 [(0, .d (.sl 52 z0)), (1, .d (.sl 52 z1)), (4, .d .nsl), (5, .d (.int .i64 z2))] [])) (fun z0 z1 => K (.exit 0) (mkSt 36 4 [(0, .d (.sl 52 z0)), (1, .d (.sl 52 z1))] [])) | _ => fun _ => none
noncomputable def code_25 : Code := (Tryz.f25.body).getD .skip
noncomputable def E_band_Merge (g : C_band_Merge) : Env A := mkE [(31, SS_z31z g.z31z), (41, SS_z26z g.z26z), (74, SS_z23z g.z23z), (75, SS_z46z g.z46z)] [(12, [0]), (26, [1]), (27, [2]), (31, [3])] [(2, ⟨[0, 1, 12, 13, 14], [], [0], [], [], [], []⟩)] [(2, ⟨[0, 1, 4, 5], [], [], [], [], [], []⟩)] [(2, pieceOf sh_band_Merge_L2 (LP_band_Merge_L2 g g.N))] [] [] [] [(41, 0), (75, 0)] []
theorem ct_band_Merge [Fuel] : NatTab (E_band_Merge I_band_Merge).C := ct_of (P := Tryz.prog) (T := T) (.cons ok_z31z (.cons ok_z26z (.cons ok_z23z (.cons ok_z46z .nil)))) (by kernel_rfl)
noncomputable def cb_band_Merge_L2 : Code := sub [1, 0, 1, 0, 0] code_25
theorem s_band_Merge_L2 (g : C_band_Merge) (n : Nat) : StepOk (E_band_Merge g) g.N cb_band_Merge_L2 sh_band_Merge_L2 (LP_band_Merge_L2 g) n := by intro ps; unfold LP_band_Merge_L2; split; exact .inr fun R K => (by kernel_rfl); exact .inl fun R K => rfl
theorem lf_band_Merge_L2 [Fuel] : LoopFine (E_band_Merge I_band_Merge) NN cb_band_Merge_L2 := fine_loop sh_band_Merge_L2 (LP_band_Merge_L2 I_band_Merge) (by kernel_rfl) ct_band_Merge (cuts0 (fun _ => rfl) (by kernel_rfl)) (fun ps R K => by unfold LP_band_Merge_L2; split <;> (try unfold band_Merge_L2) <;> rfl) (s_band_Merge_L2 I_band_Merge)
theorem sm_band_Merge (g : C_band_Merge) : Same (SS_band_Merge (@band_Merge_ g)) (abody (E_band_Merge g) Tryz.f25 code_25 4 [] [.arr 52, .asis] g.N) := by intro args; unfold SS_band_Merge; split; exact .inr fun R k => (by kernel_rfl); exact .inl fun R k => rfl
theorem ok_band_Merge [Fuel] : Ok 25 (SS_band_Merge (@band_Merge _)) := okF_of std (.cons ok_z31z (.cons ok_z26z (.cons ok_z23z (.cons ok_z46z .nil)))) ⟨rfl, rfl, by kernel_rfl, rfl, rfl, rfl⟩ (sm_band_Merge I_band_Merge) (cutsL (fun _ => rfl) (.cons lf_band_Merge_L2 .nil) (by kernel_rfl)) Tryz.func25 (by kernel_rfl) (by kernel_rfl)
abbrev T_strings_IndexByte : Type 1 := List UInt8 → Int → {R : Type} → (Int → Option R) → Option R
def strings_IndexByte [Fuel] : T_strings_IndexByte := @X_ixb
def SS_strings_IndexByte (g : T_strings_IndexByte) : Spec A := SSX_ixb g
theorem ok_strings_IndexByte [Fuel] : Ok 143 (SS_strings_IndexByte (@strings_IndexByte _)) := ⟨ssx_ixb_sound (ixb_sound (Any.strings_IndexByte Tryz.lays137)), ssx_ixb_nat, enters_of (fn := Tryz.f143) Tryz.func143 (by kernel_rfl) (by kernel_rfl)⟩
abbrev T_strings_Trim : Type 1 := List UInt8 → List UInt8 → {R : Type} → (List UInt8 → Option R) → Option R
def strings_Trim [Fuel] : T_strings_Trim := @X_trim
def SS_strings_Trim (g : T_strings_Trim) : Spec A := SSX_trim g
theorem ok_strings_Trim [Fuel] : Ok 151 (SS_strings_Trim (@strings_Trim _)) := ⟨ssx_trim_sound (trim_sound rfl (fun s cs w h1 h2 h3 => Any.strings_Trim_laid Tryz.lays160 (by kernel_rfl) s cs w h1 h2 h3)), ssx_trim_nat, enters_of (fn := Tryz.f151) Tryz.func151 (by kernel_rfl) (by kernel_rfl)⟩
abbrev T_kit_IsKey : Type 1 := List UInt8 → {R : Type} → (Bool → Option R) → Option R
structure C_kit_IsKey where
 N : Nat
 strings_IndexByte : T_strings_IndexByte
 strings_Trim : T_strings_Trim
def kit_IsKey_ (g : C_kit_IsKey) (a1 : List UInt8) {R : Type} (k0 : Bool → Option R) : Option R :=
 (bif (!(a1 == [])) then (bif (decide ((a1.length : Int) ≤ 40)) then (at_ a1 0 fun x2 => (g.strings_IndexByte [97, 98, 99, 100, 101, 102, 103, 104, 105, 106, 107, 108, 109, 110, 111, 112, 113, 114, 115, 116, 117, 118, 119, 120, 121, 122] (x2.toNat : Int) (fun r3 => (bif (decide (r3 ≥ 0)) then (g.strings_Trim a1 [97, 98, 99, 100, 101, 102, 103, 104, 105, 106, 107, 108, 109, 110, 111, 112, 113, 114, 115, 116, 117, 118, 119, 120, 121, 122, 48, 49, 50, 51, 52, 53, 54, 55, 56, 57, 45, 95] (fun r4 => k0 (r4 == []))) else k0 false)))) else k0 false) else k0 false)
noncomputable def I_kit_IsKey [Fuel] : C_kit_IsKey := ⟨NN, @strings_IndexByte _, @strings_Trim _⟩
noncomputable def kit_IsKey [Fuel] : T_kit_IsKey := @kit_IsKey_ I_kit_IsKey
def SS_kit_IsKey (g : T_kit_IsKey) : Spec A := fun args => match args with | [.d (.str a1)] => fun k => g a1 (fun z0 => k (.d (.bool z0)) [.undef]) | _ => fun _ => none
noncomputable def code_115 : Code := (Tryz.f115.body).getD .skip
noncomputable def E_kit_IsKey (g : C_kit_IsKey) : Env A := mkE [(143, SS_strings_IndexByte g.strings_IndexByte), (151, SS_strings_Trim g.strings_Trim)] [] [] [] [] [] [] [] [] []
theorem sm_kit_IsKey (g : C_kit_IsKey) : Same (SS_kit_IsKey (@kit_IsKey_ g)) (abody (E_kit_IsKey g) Tryz.f115 code_115 0 [] [.asis] g.N) := by intro args; unfold SS_kit_IsKey; split; exact .inr fun R k => (by kernel_rfl); exact .inl fun R k => rfl
theorem ok_kit_IsKey [Fuel] : Ok 115 (SS_kit_IsKey (@kit_IsKey _)) := okF_of std (.cons ok_strings_IndexByte (.cons ok_strings_Trim .nil)) ⟨rfl, rfl, by kernel_rfl, rfl, rfl, rfl⟩ (sm_kit_IsKey I_kit_IsKey) (cuts0 (fun _ => rfl) (by kernel_rfl)) Tryz.func115 (by kernel_rfl) (by kernel_rfl)
abbrev T_z22z : Type 1 := G_Band → G_Band → {R : Type} → (Bool → G_Band → Option R) → Option R
def z22z_ (g : Nat) (a1 a2 : G_Band) {R : Type} (k0 : Bool → G_Band → Option R) : Option R :=
 k0 (a1.f_Key == a2.f_Key) a2
noncomputable def z22z [Fuel] : T_z22z := @z22z_ NN
def SS_z22z (g : T_z22z) : Spec A := fun args => match args with | [.agg [.d (.str a1), .d (.int .i64 a2), .d (.int .i64 a3)], .box [.d (.str a4), .d (.int .i64 a5), .d (.int .i64 a6)]] => fun k => g ⟨a1, a2, a3⟩ ⟨a4, a5, a6⟩ (fun z0 z1 => k (.d (.bool z0)) [.undef, .box [.d (.str z1.f_Key), .d (.int .i64 z1.f_Low), .d (.int .i64 z1.f_High)]]) | _ => fun _ => none
noncomputable def code_135 : Code := (Tryz.f135.body).getD .skip
noncomputable def E_z22z (g : Nat) : Env A := mkE [] [(2, [1])] [] [] [] [] [] [] [] [1]
theorem sm_z22z (g : Nat) : Same (SS_z22z (@z22z_ g)) (abody (E_z22z g) Tryz.f135 code_135 2 [0] [.asis] g) := by intro args; unfold SS_z22z; split; exact .inr fun R k => (by kernel_rfl); exact .inl fun R k => rfl
theorem ok_z22z [Fuel] : Ok 135 (SS_z22z (@z22z _)) := okF_of std .nil ⟨rfl, rfl, by kernel_rfl, rfl, rfl, rfl⟩ (sm_z22z NN) (cuts0 (fun _ => rfl) (by kernel_rfl)) Tryz.func135 (by kernel_rfl) (by kernel_rfl)
abbrev T_z15z : Type 1 := List G_Band → G_Band → {R : Type} → (Int → G_Band → Option R) → Option R
structure C_z15z where
 N : Nat
 z22z : T_z22z
def z15z_L2 (g : C_z15z) : Nat → List G_Band → Int → Int → G_Band → {R : Type} → (Int → G_Band → Option R) → (G_Band → Option R) → Option R
 | 0, _, _, _, _, _, _, _ => none
 | n + 1, v3, v4, v5, v6, _, e0, e1 => (bif (decide (v5 < v4)) then (get_ v3 v5 fun x10 => (g.z22z x10 v6 (fun r11 r12 => (bif r11 then e0 v5 r12 else z15z_L2 g n v3 v4 (w64 (v5 + 1)) r12 e0 e1)))) else e1 v6)
def z15z_ (g : C_z15z) (a1 : List G_Band) (a2 : G_Band) {R : Type} (k0 : Int → G_Band → Option R) : Option R :=
 (z15z_L2 g g.N a1 (a1.length : Int) 0 a2 (fun e13 e14 => k0 e13 e14) (fun e15 => k0 (-1) e15))
noncomputable def I_z15z [Fuel] : C_z15z := ⟨NN, @z22z _⟩
noncomputable def z15z [Fuel] : T_z15z := @z15z_ I_z15z
def SS_z15z (g : T_z15z) : Spec A := fun args => match args with | [.d (.sl 69 a1), .fn 135 [.box [.d (.str a2), .d (.int .i64 a3), .d (.int .i64 a4)]]] => fun k => g a1 ⟨a2, a3, a4⟩ (fun z0 z1 => k (.d (.int .i64 z0)) [.undef, .fn 135 [.box [.d (.str z1.f_Key), .d (.int .i64 z1.f_Low), .d (.int .i64 z1.f_High)]]]) | _ => fun _ => none
def sh_z15z_L2 : SSt := mkSh 19 1 [(0, .sl 69), (1, .fn 135 [.ptr 0 0]), (7, .int .i64), (8, .int .i64)] [(0, .box [.str, .int .i64, .int .i64])]
def LP_z15z_L2 (g : C_z15z) (n : Nat) : LPT A := fun ps => match ps with | [.d (.sl 69 p1), .d (.int .i64 p2), .d (.int .i64 p3), .d (.str p4), .d (.int .i64 p5), .d (.int .i64 p6)] => fun K => z15z_L2 g n p1 p2 p3 ⟨p4, p5, p6⟩ (fun z0 z1 => K .ret (mkSt 19 1 [(1, .fn 135 [.ptr 0 0]), (4, .d (.int .i64 z0))] [(0, some (.box [.d (.str z1.f_Key), .d (.int .i64 z1.f_Low), .d (.int .i64 z1.f_High)]))])) (fun z0 => K (.exit 0) (mkSt 19 1 [(1, .fn 135 [.ptr 0 0])] [(0, some (.box [.d (.str z0.f_Key), .d (.int .i64 z0.f_Low), .d (.int .i64 z0.f_High)]))])) | _ => fun _ => none
noncomputable def code_107 : Code := (Tryz.f107.body).getD .skip
noncomputable def E_z15z (g : C_z15z) : Env A := mkE [(135, SS_z22z g.z22z)] [] [(2, ⟨[0, 1, 7, 8], [], [0], [], [], [], []⟩)] [(2, ⟨[1, 4], [], [0], [], [], [], []⟩)] [(2, pieceOf sh_z15z_L2 (LP_z15z_L2 g g.N))] [] [] [] [] [1]
theorem ct_z15z [Fuel] : NatTab (E_z15z I_z15z).C := ct_of (P := Tryz.prog) (T := T) (.cons ok_z22z .nil) (by kernel_rfl)
noncomputable def cb_z15z_L2 : Code := sub [1, 0, 1, 0, 0] code_107
theorem s_z15z_L2 (g : C_z15z) (n : Nat) : StepOk (E_z15z g) g.N cb_z15z_L2 sh_z15z_L2 (LP_z15z_L2 g) n := by intro ps; unfold LP_z15z_L2; split; exact .inr fun R K => (by kernel_rfl); exact .inl fun R K => rfl
theorem lf_z15z_L2 [Fuel] : LoopFine (E_z15z I_z15z) NN cb_z15z_L2 := fine_loop sh_z15z_L2 (LP_z15z_L2 I_z15z) (by kernel_rfl) ct_z15z (cuts0 (fun _ => rfl) (by kernel_rfl)) (fun ps R K => by unfold LP_z15z_L2; split <;> (try unfold z15z_L2) <;> rfl) (s_z15z_L2 I_z15z)
theorem sm_z15z (g : C_z15z) : Same (SS_z15z (@z15z_ g)) (abody (E_z15z g) Tryz.f107 code_107 1 [0] [.asis] g.N) := by intro args; unfold SS_z15z; split; exact .inr fun R k => (by kernel_rfl); exact .inl fun R k => rfl
theorem ok_z15z [Fuel] : Ok 107 (SS_z15z (@z15z _)) := okF_of std (.cons ok_z22z .nil) ⟨rfl, rfl, by kernel_rfl, rfl, rfl, rfl⟩ (sm_z15z I_z15z) (cutsL (fun _ => rfl) (.cons lf_z15z_L2 .nil) (by kernel_rfl)) Tryz.func107 (by kernel_rfl) (by kernel_rfl)
abbrev T_z33z : Type 1 := List G_Band → G_Band → {R : Type} → (Bool → G_Band → Option R) → Option R
structure C_z33z where
 N : Nat
 z15z : T_z15z
def z33z_ (g : C_z33z) (a1 : List G_Band) (a2 : G_Band) {R : Type} (k0 : Bool → G_Band → Option R) : Option R :=
 (g.z15z a1 a2 (fun r3 r4 => k0 (decide (r3 ≥ 0)) r4))
noncomputable def I_z33z [Fuel] : C_z33z := ⟨NN, @z15z _⟩
noncomputable def z33z [Fuel] : T_z33z := @z33z_ I_z33z
def SS_z33z (g : T_z33z) : Spec A := fun args => match args with | [.d (.sl 69 a1), .fn 135 [.box [.d (.str a2), .d (.int .i64 a3), .d (.int .i64 a4)]]] => fun k => g a1 ⟨a2, a3, a4⟩ (fun z0 z1 => k (.d (.bool z0)) [.undef, .fn 135 [.box [.d (.str z1.f_Key), .d (.int .i64 z1.f_Low), .d (.int .i64 z1.f_High)]]]) | _ => fun _ => none
noncomputable def code_134 : Code := (Tryz.f134.body).getD .skip
noncomputable def E_z33z (g : C_z33z) : Env A := mkE [(107, SS_z15z g.z15z)] [] [] [] [] [] [] [] [(107, 0)] [1]
theorem sm_z33z (g : C_z33z) : Same (SS_z33z (@z33z_ g)) (abody (E_z33z g) Tryz.f134 code_134 1 [0] [.asis] g.N) := by intro args; unfold SS_z33z; split; exact .inr fun R k => (by kernel_rfl); exact .inl fun R k => rfl
theorem ok_z33z [Fuel] : Ok 134 (SS_z33z (@z33z _)) := okF_of std (.cons ok_z15z .nil) ⟨rfl, rfl, by kernel_rfl, rfl, rfl, rfl⟩ (sm_z33z I_z33z) (cuts0 (fun _ => rfl) (by kernel_rfl)) Tryz.func134 (by kernel_rfl) (by kernel_rfl)
end Go.Am
