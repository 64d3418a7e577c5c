/- The functions of the program as Lean functions, each shown to be what the code computes, part 9. No condition: lemmas for the claim. -/
import Derived.Test.YtnlblmnoiepeaaaGreatDoorF0
import Derived.Test.YtnlblmnoiepeaaaGreatDoorFSh
import Derived.Test.YtnlblmnoiepeaaaGreatDoorF1
import Derived.Test.YtnlblmnoiepeaaaGreatDoorF4
import Derived.Test.YtnlblmnoiepeaaaGreatDoorF5
import Derived.Test.YtnlblmnoiepeaaaGreatDoorF6
set_option linter.unusedVariables false
set_option maxRecDepth 100000
namespace Go.Am
open Go Go.Proofs
abbrev T_log_dupes : Type 1 := List G_Contact → {R : Type} → (List Int → Option R) → Option R
structure C_log_dupes where
 N : Nat
 z75z : T_z75z
def log_dupes_L4 (g : C_log_dupes) : Nat → List G_Contact → Int → Int → List (G_log_worked × Bool) → List Int → {R : Type} → (List Int → Option R) → Option R
 | 0, _, _, _, _, _, _, _ => none
 | n + 1, v2, v3, v4, v5, v6, _, e0 => (bif (decide (v4 < v3)) then (get_ v2 v4 fun x9 => (g.z75z x9.f_Call (fun r10 => (bif ((mget_log_worked_bool (⟨r10, x9.f_Band, x9.f_Mode⟩ : G_log_worked) v5).getD false) then (bif (decide ((v6.length + [v4].length) * 8 ≤ roomBytes')) then log_dupes_L4 g n v2 v3 (w64 (v4 + 1)) (mset_log_worked_bool (⟨r10, x9.f_Band, x9.f_Mode⟩ : G_log_worked) true v5) (v6 ++ [v4]) e0 else none) else log_dupes_L4 g n v2 v3 (w64 (v4 + 1)) (mset_log_worked_bool (⟨r10, x9.f_Band, x9.f_Mode⟩ : G_log_worked) true v5) v6 e0)))) else e0 v6)
def log_dupes_ (g : C_log_dupes) (a1 : List G_Contact) {R : Type} (k0 : List Int → Option R) : Option R :=
 (log_dupes_L4 g g.N a1 (a1.length : Int) 0 [] [] (fun e11 => k0 e11))
noncomputable def I_log_dupes [Fuel] : C_log_dupes := ⟨NN, @z75z _⟩
noncomputable def log_dupes [Fuel] : T_log_dupes := @log_dupes_ I_log_dupes
def SS_log_dupes (g : T_log_dupes) : Spec A := fun args => match args with | [.d (.sl 38 a1)] => fun k => g a1 (fun z0 => k (.arr 3 z0) [.undef]) | _ => fun _ => none
def sh_log_dupes_L4 : SSt := mkSh 35 6 [(3, .mp 0), (4, .own 3 1), (9, .sl 38), (10, .int .i64), (11, .int .i64)] [(0, .mp 140 4), (1, .row 3)]
def LP_log_dupes_L4 (g : C_log_dupes) (n : Nat) : LPT A := fun ps => match ps with | [.d (.sl 38 p1), .d (.int .i64 p2), .d (.int .i64 p3), .mp 140 4 p4, .d (.sl 3 p5)] => fun K => log_dupes_L4 g n p1 p2 p3 p4 p5 (fun z0 => K (.exit 0) (mkSt 35 6 [(4, .own 3 1)] [(1, some (.row 3 z0))])) | _ => fun _ => none
noncomputable def code_44 : Code := (Tryz.f44.body).getD .skip
noncomputable def E_log_dupes (g : C_log_dupes) : Env A := mkE [(35, SS_z75z g.z75z)] [(6, [2]), (7, [3]), (8, [0]), (29, [4]), (30, [5])] [(4, ⟨[3, 4, 9, 10, 11], [(4, 3, 1)], [0], [], [], [], []⟩)] [(4, ⟨[4], [], [1], [], [], [], []⟩)] [(4, pieceOf sh_log_dupes_L4 (LP_log_dupes_L4 g g.N))] [] [] [] [] []
theorem ct_log_dupes [Fuel] : NatTab (E_log_dupes I_log_dupes).C := ct_of (P := Tryz.prog) (T := T) (.cons ok_z75z .nil) (by kernel_rfl)
noncomputable def cb_log_dupes_L4 : Code := sub [1, 1, 1, 0, 1, 0, 0] code_44
theorem s_log_dupes_L4 (g : C_log_dupes) (n : Nat) : StepOk (E_log_dupes g) g.N cb_log_dupes_L4 sh_log_dupes_L4 (LP_log_dupes_L4 g) n := by intro ps; unfold LP_log_dupes_L4; split; exact .inr fun R K => (by kernel_rfl); exact .inl fun R K => rfl
theorem lf_log_dupes_L4 [Fuel] : LoopFine (E_log_dupes I_log_dupes) NN cb_log_dupes_L4 := fine_loop sh_log_dupes_L4 (LP_log_dupes_L4 I_log_dupes) (by kernel_rfl) ct_log_dupes (cuts0 (fun _ => rfl) (by kernel_rfl)) (fun ps R K => by unfold LP_log_dupes_L4; split <;> (try unfold log_dupes_L4) <;> rfl) (s_log_dupes_L4 I_log_dupes)
theorem sm_log_dupes (g : C_log_dupes) : Same (SS_log_dupes (@log_dupes_ g)) (abody (E_log_dupes g) Tryz.f44 code_44 6 [] [.arr 3] g.N) := by intro args; unfold SS_log_dupes; split; exact .inr fun R k => (by kernel_rfl); exact .inl fun R k => rfl
theorem ok_log_dupes [Fuel] : Ok 44 (SS_log_dupes (@log_dupes _)) := okF_of std (.cons ok_z75z .nil) ⟨rfl, rfl, by kernel_rfl, rfl, rfl, rfl⟩ (sm_log_dupes I_log_dupes) (cutsL (fun _ => rfl) (.cons lf_log_dupes_L4 .nil) (by kernel_rfl)) Tryz.func44 (by kernel_rfl) (by kernel_rfl)
abbrev T_log_Dupes : Type 1 := List G_Contact → {R : Type} → (List Int → Int → Option R) → Option R
structure C_log_Dupes where
 N : Nat
 z46z : T_z46z
 log_dupes : T_log_dupes
def log_Dupes_ (g : C_log_Dupes) (a1 : List G_Contact) {R : Type} (k0 : List Int → Int → Option R) : Option R :=
 (g.z46z a1 (fun r2 => (bif (r2 != 0) then k0 [] r2 else (g.log_dupes a1 (fun r3 => k0 r3 0)))))
noncomputable def I_log_Dupes [Fuel] : C_log_Dupes := ⟨NN, @z46z _, @log_dupes _⟩
noncomputable def log_Dupes [Fuel] : T_log_Dupes := @log_Dupes_ I_log_Dupes
def SS_log_Dupes (g : T_log_Dupes) : Spec A := fun args => match args with | [.d (.sl 38 a1)] => fun k => g a1 (fun z0 z1 => k (.tup [.arr 3 z0, .d (.int .i64 z1)]) [.undef]) | _ => fun _ => none
noncomputable def code_14 : Code := (Tryz.f14.body).getD .skip
noncomputable def E_log_Dupes (g : C_log_Dupes) : Env A := mkE [(32, SS_z46z g.z46z), (44, SS_log_dupes g.log_dupes)] [(11, [0])] [] [] [] [] [] [] [] []
theorem sm_log_Dupes (g : C_log_Dupes) : Same (SS_log_Dupes (@log_Dupes_ g)) (abody (E_log_Dupes g) Tryz.f14 code_14 1 [] [.arr 3, .asis] g.N) := by intro args; unfold SS_log_Dupes; split; exact .inr fun R k => (by kernel_rfl); exact .inl fun R k => rfl
theorem ok_log_Dupes [Fuel] : Ok 14 (SS_log_Dupes (@log_Dupes _)) := okF_of std (.cons ok_z46z (.cons ok_log_dupes .nil)) ⟨rfl, rfl, by kernel_rfl, rfl, rfl, rfl⟩ (sm_log_Dupes I_log_Dupes) (cuts0 (fun _ => rfl) (by kernel_rfl)) Tryz.func14 (by kernel_rfl) (by kernel_rfl)
abbrev T_z53z : Type 1 := List Int → Int → {R : Type} → (Int → Option R) → Option R
def z53z_L2 (g : Nat) : Nat → List Int → Int → Int → Int → {R : Type} → (Int → Option R) → Option R → Option R
 | 0, _, _, _, _, _, _, _ => none
 | n + 1, v3, v4, v5, v6, _, e0, e1 => (bif (decide (v6 < v5)) then (get_ v3 v6 fun x8 => (bif (v4 == x8) then e0 v6 else z53z_L2 g n v3 v4 v5 (w64 (v6 + 1)) e0 e1)) else e1)
def z53z_ (g : Nat) (a1 : List Int) (a2 : Int) {R : Type} (k0 : Int → Option R) : Option R :=
 (z53z_L2 g g a1 a2 (a1.length : Int) 0 (fun e9 => k0 e9) (k0 (-1)))
noncomputable def z53z [Fuel] : T_z53z := @z53z_ NN
def SS_z53z (g : T_z53z) : Spec A := fun args => match args with | [.d (.sl 3 a1), .d (.int .i64 a2)] => fun k => g a1 a2 (fun z0 => k (.d (.int .i64 z0)) [.undef, .undef]) | _ => fun _ => none
def sh_z53z_L2 : SSt := mkSh 19 0 [(0, .sl 3), (1, .int .i64), (7, .int .i64), (8, .int .i64)] []
def LP_z53z_L2 (g : Nat) (n : Nat) : LPT A := fun ps => match ps with | [.d (.sl 3 p1), .d (.int .i64 p2), .d (.int .i64 p3), .d (.int .i64 p4)] => fun K => z53z_L2 g n p1 p2 p3 p4 (fun z0 => K .ret (mkSt 19 0 [(4, .d (.int .i64 z0))] [])) (K (.exit 0) (mkSt 19 0 [] [])) | _ => fun _ => none
noncomputable def code_45 : Code := (Tryz.f45.body).getD .skip
noncomputable def E_z53z (g : Nat) : Env A := mkE [] [] [(2, ⟨[0, 1, 7, 8], [], [], [], [], [], []⟩)] [(2, ⟨[4], [], [], [], [], [], []⟩)] [(2, pieceOf sh_z53z_L2 (LP_z53z_L2 g g))] [] [] [] [] []
theorem ct_z53z [Fuel] : NatTab (E_z53z NN).C := ct_of (P := Tryz.prog) (T := T) .nil (by kernel_rfl)
noncomputable def cb_z53z_L2 : Code := sub [1, 0, 1, 0, 0] code_45
theorem s_z53z_L2 (g : Nat) (n : Nat) : StepOk (E_z53z g) g cb_z53z_L2 sh_z53z_L2 (LP_z53z_L2 g) n := by intro ps; unfold LP_z53z_L2; split; exact .inr fun R K => (by kernel_rfl); exact .inl fun R K => rfl
theorem lf_z53z_L2 [Fuel] : LoopFine (E_z53z NN) NN cb_z53z_L2 := fine_loop sh_z53z_L2 (LP_z53z_L2 NN) (by kernel_rfl) ct_z53z (cuts0 (fun _ => rfl) (by kernel_rfl)) (fun ps R K => by unfold LP_z53z_L2; split <;> (try unfold z53z_L2) <;> rfl) (s_z53z_L2 NN)
theorem sm_z53z (g : Nat) : Same (SS_z53z (@z53z_ g)) (abody (E_z53z g) Tryz.f45 code_45 0 [] [.asis] g) := by intro args; unfold SS_z53z; split; exact .inr fun R k => (by kernel_rfl); exact .inl fun R k => rfl
theorem ok_z53z [Fuel] : Ok 45 (SS_z53z (@z53z _)) := okF_of std .nil ⟨rfl, rfl, by kernel_rfl, rfl, rfl, rfl⟩ (sm_z53z NN) (cutsL (fun _ => rfl) (.cons lf_z53z_L2 .nil) (by kernel_rfl)) Tryz.func45 (by kernel_rfl) (by kernel_rfl)
abbrev T_z56z : Type 1 := List Int → Int → {R : Type} → (Bool → Option R) → Option R
structure C_z56z where
 N : Nat
 z53z : T_z53z
def z56z_ (g : C_z56z) (a1 : List Int) (a2 : Int) {R : Type} (k0 : Bool → Option R) : Option R :=
 (g.z53z a1 a2 (fun r3 => k0 (decide (r3 ≥ 0))))
noncomputable def I_z56z [Fuel] : C_z56z := ⟨NN, @z53z _⟩
noncomputable def z56z [Fuel] : T_z56z := @z56z_ I_z56z
def SS_z56z (g : T_z56z) : Spec A := fun args => match args with | [.d (.sl 3 a1), .d (.int .i64 a2)] => fun k => g a1 a2 (fun z0 => k (.d (.bool z0)) [.undef, .undef]) | _ => fun _ => none
noncomputable def code_15 : Code := (Tryz.f15.body).getD .skip
noncomputable def E_z56z (g : C_z56z) : Env A := mkE [(45, SS_z53z g.z53z)] [] [] [] [] [] [] [] [] []
theorem sm_z56z (g : C_z56z) : Same (SS_z56z (@z56z_ g)) (abody (E_z56z g) Tryz.f15 code_15 0 [] [.asis] g.N) := by intro args; unfold SS_z56z; split; exact .inr fun R k => (by kernel_rfl); exact .inl fun R k => rfl
theorem ok_z56z [Fuel] : Ok 15 (SS_z56z (@z56z _)) := okF_of std (.cons ok_z53z .nil) ⟨rfl, rfl, by kernel_rfl, rfl, rfl, rfl⟩ (sm_z56z I_z56z) (cuts0 (fun _ => rfl) (by kernel_rfl)) Tryz.func15 (by kernel_rfl) (by kernel_rfl)
abbrev T_z62z : Type 1 := List UInt8 → {R : Type} → (Bool → Option R) → Option R
def z62z_L4 (g : Nat) : Nat → List UInt8 → Int → Int → {R : Type} → (Bool → Option R) → Option R → Option R
 | 0, _, _, _, _, _, _ => none
 | n + 1, v2, v3, v4, _, e0, e1 => (bif (decide (v4 < v3)) then (bif ((w64 (Int.tdiv v4 2)) == 1) then (get_ v2 v4 fun x11 => (bif (decide ((x11.toNat : Int) < 48)) then e0 false else (get_ v2 v4 fun x12 => (bif (decide ((x12.toNat : Int) > 57)) then e0 false else z62z_L4 g n v2 v3 (w64 (v4 + 1)) e0 e1)))) else (bif ((w64 (Int.tdiv v4 2)) == 2) then (get_ v2 v4 fun x13 => (bif (decide ((x13.toNat : Int) < 97)) then e0 false else (get_ v2 v4 fun x14 => (bif (decide ((x14.toNat : Int) > 120)) then e0 false else z62z_L4 g n v2 v3 (w64 (v4 + 1)) e0 e1)))) else (get_ v2 v4 fun x15 => (bif (decide ((x15.toNat : Int) < 97)) then e0 false else (get_ v2 v4 fun x16 => (bif (decide ((x16.toNat : Int) > 114)) then e0 false else z62z_L4 g n v2 v3 (w64 (v4 + 1)) e0 e1)))))) else e1)
def z62z_ (g : Nat) (a1 : List UInt8) {R : Type} (k0 : Bool → Option R) : Option R :=
 (bif ((a1.length : Int) != 2) then (bif ((a1.length : Int) != 4) then (bif ((a1.length : Int) != 6) then k0 false else (z62z_L4 g g a1 (a1.length : Int) 0 (fun e17 => k0 e17) (k0 true))) else (z62z_L4 g g a1 (a1.length : Int) 0 (fun e18 => k0 e18) (k0 true))) else (z62z_L4 g g a1 (a1.length : Int) 0 (fun e19 => k0 e19) (k0 true)))
noncomputable def z62z [Fuel] : T_z62z := @z62z_ NN
def SS_z62z (g : T_z62z) : Spec A := fun args => match args with | [.d (.str a1)] => fun k => g a1 (fun z0 => k (.d (.bool z0)) [.undef]) | _ => fun _ => none
def sh_z62z_L4 : SSt := mkSh 43 0 [(0, .str), (20, .int .i64), (21, .int .i64)] []
def LP_z62z_L4 (g : Nat) (n : Nat) : LPT A := fun ps => match ps with | [.d (.str p1), .d (.int .i64 p2), .d (.int .i64 p3)] => fun K => z62z_L4 g n p1 p2 p3 (fun z0 => K .ret (mkSt 43 0 [(2, .d (.bool z0))] [])) (K (.exit 0) (mkSt 43 0 [] [])) | _ => fun _ => none
noncomputable def code_177 : Code := (Tryz.f177.body).getD .skip
noncomputable def E_z62z (g : Nat) : Env A := mkE [] [] [(4, ⟨[0, 20, 21], [], [], [], [], [], []⟩)] [(4, ⟨[2], [], [], [], [], [], []⟩)] [(4, pieceOf sh_z62z_L4 (LP_z62z_L4 g g))] [] [] [] [] []
theorem ct_z62z [Fuel] : NatTab (E_z62z NN).C := ct_of (P := Tryz.prog) (T := T) .nil (by kernel_rfl)
noncomputable def cb_z62z_L4 : Code := sub [1, 1, 0, 1, 0, 0] code_177
theorem s_z62z_L4 (g : Nat) (n : Nat) : StepOk (E_z62z g) g cb_z62z_L4 sh_z62z_L4 (LP_z62z_L4 g) n := by intro ps; unfold LP_z62z_L4; split; exact .inr fun R K => (by kernel_rfl); exact .inl fun R K => rfl
theorem lf_z62z_L4 [Fuel] : LoopFine (E_z62z NN) NN cb_z62z_L4 := fine_loop sh_z62z_L4 (LP_z62z_L4 NN) (by kernel_rfl) ct_z62z (cuts0 (fun _ => rfl) (by kernel_rfl)) (fun ps R K => by unfold LP_z62z_L4; split <;> (try unfold z62z_L4) <;> rfl) (s_z62z_L4 NN)
theorem sm_z62z (g : Nat) : Same (SS_z62z (@z62z_ g)) (abody (E_z62z g) Tryz.f177 code_177 0 [] [.asis] g) := by intro args; unfold SS_z62z; split; exact .inr fun R k => (by kernel_rfl); exact .inl fun R k => rfl
theorem ok_z62z [Fuel] : Ok 177 (SS_z62z (@z62z _)) := okF_of std .nil ⟨rfl, rfl, by kernel_rfl, rfl, rfl, rfl⟩ (sm_z62z NN) (cutsL (fun _ => rfl) (.cons lf_z62z_L4 .nil) (by kernel_rfl)) Tryz.func177 (by kernel_rfl) (by kernel_rfl)
abbrev T_z86z : Type 1 := List UInt8 → {R : Type} → (Bool → Option R) → Option R
structure C_z86z where
 N : Nat
 z62z : T_z62z
def z86z_ (g : C_z86z) (a1 : List UInt8) {R : Type} (k0 : Bool → Option R) : Option R :=
 (bif ((a1.length : Int) == 6) then (g.z62z a1 (fun r2 => k0 r2)) else k0 false)
noncomputable def I_z86z [Fuel] : C_z86z := ⟨NN, @z62z _⟩
noncomputable def z86z [Fuel] : T_z86z := @z86z_ I_z86z
def SS_z86z (g : T_z86z) : Spec A := fun args => match args with | [.d (.str a1)] => fun k => g a1 (fun z0 => k (.d (.bool z0)) [.undef]) | _ => fun _ => none
noncomputable def code_132 : Code := (Tryz.f132.body).getD .skip
noncomputable def E_z86z (g : C_z86z) : Env A := mkE [(177, SS_z62z g.z62z)] [] [] [] [] [] [] [] [] []
theorem sm_z86z (g : C_z86z) : Same (SS_z86z (@z86z_ g)) (abody (E_z86z g) Tryz.f132 code_132 0 [] [.asis] g.N) := by intro args; unfold SS_z86z; split; exact .inr fun R k => (by kernel_rfl); exact .inl fun R k => rfl
theorem ok_z86z [Fuel] : Ok 132 (SS_z86z (@z86z _)) := okF_of std (.cons ok_z62z .nil) ⟨rfl, rfl, by kernel_rfl, rfl, rfl, rfl⟩ (sm_z86z I_z86z) (cuts0 (fun _ => rfl) (by kernel_rfl)) Tryz.func132 (by kernel_rfl) (by kernel_rfl)
abbrev T_z38z : Type 1 := List G_Entrant → {R : Type} → (Int → Option R) → Option R
structure C_z38z where
 N : Nat
 z44z : T_z44z
 kit_IsKey : T_kit_IsKey
 strings_Compare : T_strings_Compare
 call_Is : T_call_Is
 z36z : T_z36z
 z86z : T_z86z
def z38z_L4 (g : C_z38z) : Nat → List G_Entrant → List G_Entrant → Int → Int → {R : Type} → (Int → Option R) → Option R → Option R
 | 0, _, _, _, _, _, _, _ => none
 | n + 1, v2, v3, v4, v5, _, e0, e1 => (bif (decide (v5 < v4)) then (get_ v3 v5 fun x21 => (g.call_Is x21.f_Call (fun r22 => (bif (!r22) then e0 3 else (g.kit_IsKey x21.f_Category (fun r23 => (bif (!r23) then e0 5 else (g.z44z x21.f_Points 0 1000000000000 (fun r24 => (bif r24 then e0 1 else (bif (!(x21.f_Locator == [])) then (g.z86z x21.f_Locator (fun r25 => (bif (!r25) then e0 3 else (bif (decide (v5 > 0)) then (get_ v2 (w64 (v5 - 1)) fun x26 => (get_ v2 (w64 (v5 - 1)) fun x27 => (g.strings_Compare x26.f_Category x21.f_Category (fun r28 => (g.strings_Compare x27.f_Call x21.f_Call (fun r29 => (g.z36z [r28, r29] (fun r30 => (bif (decide (r30 ≥ 0)) then e0 7 else z38z_L4 g n v2 v3 v4 (w64 (v5 + 1)) e0 e1))))))))) else z38z_L4 g n v2 v3 v4 (w64 (v5 + 1)) e0 e1)))) else (bif (decide (v5 > 0)) then (get_ v2 (w64 (v5 - 1)) fun x31 => (get_ v2 (w64 (v5 - 1)) fun x32 => (g.strings_Compare x31.f_Category x21.f_Category (fun r33 => (g.strings_Compare x32.f_Call x21.f_Call (fun r34 => (g.z36z [r33, r34] (fun r35 => (bif (decide (r35 ≥ 0)) then e0 7 else z38z_L4 g n v2 v3 v4 (w64 (v5 + 1)) e0 e1))))))))) else z38z_L4 g n v2 v3 v4 (w64 (v5 + 1)) e0 e1)))))))))))) else e1)
def z38z_ (g : C_z38z) (a1 : List G_Entrant) {R : Type} (k0 : Int → Option R) : Option R :=
 (bif (decide ((a1.length : Int) > 500)) then k0 2 else (z38z_L4 g g.N a1 a1 (a1.length : Int) 0 (fun e36 => k0 e36) (k0 0)))
noncomputable def I_z38z [Fuel] : C_z38z := ⟨NN, @z44z _, @kit_IsKey _, @strings_Compare _, @call_Is _, @z36z _, @z86z _⟩
noncomputable def z38z [Fuel] : T_z38z := @z38z_ I_z38z
def SS_z38z (g : T_z38z) : Spec A := fun args => match args with | [.d (.sl 88 a1)] => fun k => g a1 (fun z0 => k (.d (.int .i64 z0)) [.undef]) | _ => fun _ => none
def sh_z38z_L4 : SSt := mkSh 66 2 [(0, .sl 88), (8, .sl 88), (9, .int .i64), (10, .int .i64)] []
def LP_z38z_L4 (g : C_z38z) (n : Nat) : LPT A := fun ps => match ps with | [.d (.sl 88 p1), .d (.sl 88 p2), .d (.int .i64 p3), .d (.int .i64 p4)] => fun K => z38z_L4 g n p1 p2 p3 p4 (fun z0 => K .ret (mkSt 66 2 [(2, .d (.int .i64 z0))] [])) (K (.exit 0) (mkSt 66 2 [] [])) | _ => fun _ => none
noncomputable def code_85 : Code := (Tryz.f85.body).getD .skip
noncomputable def E_z38z (g : C_z38z) : Env A := mkE [(42, SS_z44z g.z44z), (80, SS_kit_IsKey g.kit_IsKey), (116, SS_strings_Compare g.strings_Compare), (118, SS_call_Is g.call_Is), (121, SS_z36z g.z36z), (132, SS_z86z g.z86z)] [(4, [0]), (61, [1])] [(4, ⟨[0, 8, 9, 10], [], [], [], [], [], []⟩)] [(4, ⟨[2], [], [], [], [], [], []⟩)] [(4, pieceOf sh_z38z_L4 (LP_z38z_L4 g g.N))] [] [] [] [] []
theorem ct_z38z [Fuel] : NatTab (E_z38z I_z38z).C := ct_of (P := Tryz.prog) (T := T) (.cons ok_z44z (.cons ok_kit_IsKey (.cons ok_strings_Compare (.cons ok_call_Is (.cons ok_z36z (.cons ok_z86z .nil)))))) (by kernel_rfl)
noncomputable def cb_z38z_L4 : Code := sub [1, 1, 0, 1, 0, 0] code_85
theorem s_z38z_L4 (g : C_z38z) (n : Nat) : StepOk (E_z38z g) g.N cb_z38z_L4 sh_z38z_L4 (LP_z38z_L4 g) n := by intro ps; unfold LP_z38z_L4; split; exact .inr fun R K => (by kernel_rfl); exact .inl fun R K => rfl
theorem lf_z38z_L4 [Fuel] : LoopFine (E_z38z I_z38z) NN cb_z38z_L4 := fine_loop sh_z38z_L4 (LP_z38z_L4 I_z38z) (by kernel_rfl) ct_z38z (cuts0 (fun _ => rfl) (by kernel_rfl)) (fun ps R K => by unfold LP_z38z_L4; split <;> (try unfold z38z_L4) <;> rfl) (s_z38z_L4 I_z38z)
theorem sm_z38z (g : C_z38z) : Same (SS_z38z (@z38z_ g)) (abody (E_z38z g) Tryz.f85 code_85 2 [] [.asis] g.N) := by intro args; unfold SS_z38z; split; exact .inr fun R k => (by kernel_rfl); exact .inl fun R k => rfl
theorem ok_z38z [Fuel] : Ok 85 (SS_z38z (@z38z _)) := okF_of std (.cons ok_z44z (.cons ok_kit_IsKey (.cons ok_strings_Compare (.cons ok_call_Is (.cons ok_z36z (.cons ok_z86z .nil)))))) ⟨rfl, rfl, by kernel_rfl, rfl, rfl, rfl⟩ (sm_z38z I_z38z) (cutsL (fun _ => rfl) (.cons lf_z38z_L4 .nil) (by kernel_rfl)) Tryz.func85 (by kernel_rfl) (by kernel_rfl)
abbrev T_z50z : Type 1 := G_Place → G_Place → {R : Type} → (Int → Option R) → Option R
structure C_z50z where
 N : Nat
 strings_Compare : T_strings_Compare
 z36z : T_z36z
 z31z : T_z31z
def z50z_ (g : C_z50z) (a1 a2 : G_Place) {R : Type} (k0 : Int → Option R) : Option R :=
 (g.z31z a2.f_Points a1.f_Points (fun r3 => (g.strings_Compare a1.f_Key a2.f_Key (fun r4 => (g.z36z [r3, r4] (fun r5 => k0 r5))))))
noncomputable def I_z50z [Fuel] : C_z50z := ⟨NN, @strings_Compare _, @z36z _, @z31z _⟩
noncomputable def z50z [Fuel] : T_z50z := @z50z_ I_z50z
def SS_z50z (g : T_z50z) : Spec A := fun args => match args with | [.agg [.d (.int .i64 a1), .d (.int .i64 a2), .d (.str a3)], .agg [.d (.int .i64 a4), .d (.int .i64 a5), .d (.str a6)]] => fun k => g ⟨a1, a2, a3⟩ ⟨a4, a5, a6⟩ (fun z0 => k (.d (.int .i64 z0)) [.undef, .undef]) | _ => fun _ => none
noncomputable def code_134 : Code := (Tryz.f134.body).getD .skip
noncomputable def E_z50z (g : C_z50z) : Env A := mkE [(116, SS_strings_Compare g.strings_Compare), (121, SS_z36z g.z36z), (122, SS_z31z g.z31z)] [(2, [0]), (3, [1]), (15, [2])] [] [] [] [] [] [] [] []
theorem sm_z50z (g : C_z50z) : Same (SS_z50z (@z50z_ g)) (abody (E_z50z g) Tryz.f134 code_134 3 [] [.asis] g.N) := by intro args; unfold SS_z50z; split; exact .inr fun R k => (by kernel_rfl); exact .inl fun R k => rfl
theorem ok_z50z [Fuel] : Ok 134 (SS_z50z (@z50z _)) := okF_of std (.cons ok_strings_Compare (.cons ok_z36z (.cons ok_z31z .nil))) ⟨rfl, rfl, by kernel_rfl, rfl, rfl, rfl⟩ (sm_z50z I_z50z) (cuts0 (fun _ => rfl) (by kernel_rfl)) Tryz.func134 (by kernel_rfl) (by kernel_rfl)
noncomputable def Ed_z50z (g : C_z50z) : Env A := mkED [(116, SS_strings_Compare g.strings_Compare), (121, SS_z36z g.z36z), (122, SS_z31z g.z31z)] [(2, [0]), (3, [1]), (15, [2])] [] [] [] [] [] [] [] []
theorem smd_z50z (g : C_z50z) : Same (SS_z50z (@z50z_ g)) (abody (Ed_z50z g) Tryz.f134 code_134 3 [] [.asis] g.N) := by intro args; unfold SS_z50z; split; exact .inr fun R k => (by kernel_rfl); exact .inl fun R k => rfl
theorem okd_z50z [Fuel] : OkD 134 (SS_z50z (@z50z _)) := okF_of stdD (.cons okd_strings_Compare (.cons okd_z36z (.cons okd_z31z .nil))) ⟨rfl, rfl, by kernel_rfl, rfl, rfl, rfl⟩ (smd_z50z I_z50z) (cuts0 (fun _ => rfl) (by kernel_rfl)) Tryz.func134 (by kernel_rfl) (by kernel_rfl)
abbrev T_z43z : Type 1 := List G_Place → {R : Type} → (List G_Place → Option R) → Option R
noncomputable def z43z [Fuel] : T_z43z := @X_sortf G_Place (@z50z _)
def SS_z43z (g : T_z43z) : Spec A := fun args => match args with | [.arr 143 a1, .fn 134 []] => fun k => g a1 (fun z => k (.tup []) [.arr 143 z, .fn 134 []]) | _ => fun _ => none
theorem h1_z43z [Fuel] (xs : List (A 143)) (R : Type) (k : IV A → List (IV A) → Option R) : SS_z43z (@z43z _) [.arr 143 xs, .fn 134 []] k = X_sortf (α := A 143) (@z50z _) xs (fun z => k (.tup []) [.arr 143 z, .fn 134 []]) := by kernel_rfl
theorem h2_z43z [Fuel] (args : List (IV A)) (R : Type) (k : IV A → List (IV A) → Option R) (h : ∀ xs : List (A 143), args ≠ [.arr 143 xs, .fn 134 []]) : SS_z43z (@z43z _) args k = none := by unfold SS_z43z; split; exact absurd rfl (h _); rfl
theorem hc_z43z [Fuel] (x y : A 143) (R : Type) (k : Int → Option R) : callOf T (SS_z50z (@z50z _)) 143 x y k = @z50z _ x y R k := by kernel_rfl
theorem hs_z43z (x : G_Place) : (enc_e143 x).all scal = true := rfl
theorem ok_z43z [Fuel] : Ok 133 (SS_z43z (@z43z _)) := ⟨sortf_sound (tyOk Tryz.prog) (e := 143) Tryz.sortf133 Tryz.isAgg143 Tryz.sizeOf143 (fun x d hd => List.all_eq_true.1 (hs_z43z x) d hd) hc_z43z okd_z50z.fs okd_z50z.en h1_z43z h2_z43z, sortf_na (e := 143) h1_z43z h2_z43z, enters_of (fn := Tryz.f133) Tryz.func133 (by kernel_rfl) (by kernel_rfl)⟩
abbrev T_z24z : Type 1 := List G_Place → {R : Type} → (List G_Place → Option R) → Option R
structure C_z24z where
 N : Nat
 z43z : T_z43z
def z24z_L3 (g : C_z24z) : Nat → Int → Int → List G_Place → {R : Type} → (List G_Place → Option R) → Option R
 | 0, _, _, _, _, _ => none
 | n + 1, v3, v4, v5, _, e0 => (bif (decide (v4 < v3)) then (inr v5 v4 (at_ v5 v4 fun x11 => (bif (decide (v4 > 0)) then (inr (set_ v5 v4 (⟨(w64 (v4 + 1)), x11.f_Points, x11.f_Key⟩ : G_Place)) v4 (at_ (set_ v5 v4 (⟨(w64 (v4 + 1)), x11.f_Points, x11.f_Key⟩ : G_Place)) v4 fun x12 => (inr (set_ v5 v4 (⟨(w64 (v4 + 1)), x11.f_Points, x11.f_Key⟩ : G_Place)) (w64 (v4 - 1)) (at_ (set_ v5 v4 (⟨(w64 (v4 + 1)), x11.f_Points, x11.f_Key⟩ : G_Place)) (w64 (v4 - 1)) fun x13 => (bif (x12.f_Points == x13.f_Points) then (inr (set_ v5 v4 (⟨(w64 (v4 + 1)), x11.f_Points, x11.f_Key⟩ : G_Place)) (w64 (v4 - 1)) (at_ (set_ v5 v4 (⟨(w64 (v4 + 1)), x11.f_Points, x11.f_Key⟩ : G_Place)) (w64 (v4 - 1)) fun x14 => (inr (set_ v5 v4 (⟨(w64 (v4 + 1)), x11.f_Points, x11.f_Key⟩ : G_Place)) v4 (at_ (set_ v5 v4 (⟨(w64 (v4 + 1)), x11.f_Points, x11.f_Key⟩ : G_Place)) v4 fun x15 => z24z_L3 g n v3 (w64 (v4 + 1)) (set_ (set_ v5 v4 (⟨(w64 (v4 + 1)), x11.f_Points, x11.f_Key⟩ : G_Place)) v4 (⟨x14.f_Rank, x15.f_Points, x15.f_Key⟩ : G_Place)) e0)))) else z24z_L3 g n v3 (w64 (v4 + 1)) (set_ v5 v4 (⟨(w64 (v4 + 1)), x11.f_Points, x11.f_Key⟩ : G_Place)) e0))))) else z24z_L3 g n v3 (w64 (v4 + 1)) (set_ v5 v4 (⟨(w64 (v4 + 1)), x11.f_Points, x11.f_Key⟩ : G_Place)) e0))) else e0 v5)
def z24z_ (g : C_z24z) (a1 : List G_Place) {R : Type} (k0 : List G_Place → Option R) : Option R :=
 (g.z43z a1 (fun r2 => (z24z_L3 g g.N (r2.length : Int) 0 r2 (fun e16 => k0 e16))))
noncomputable def I_z24z [Fuel] : C_z24z := ⟨NN, @z43z _⟩
noncomputable def z24z [Fuel] : T_z24z := @z24z_ I_z24z
def SS_z24z (g : T_z24z) : Spec A := fun args => match args with | [.arr 143 a1] => fun k => g a1 (fun z0 => k (.arr 143 z0) [.undef]) | _ => fun _ => none
def sh_z24z_L3 : SSt := mkSh 45 1 [(0, .own 143 0), (7, .int .i64), (8, .int .i64)] [(0, .row 143)]
def LP_z24z_L3 (g : C_z24z) (n : Nat) : LPT A := fun ps => match ps with | [.d (.int .i64 p1), .d (.int .i64 p2), .d (.sl 143 p3)] => fun K => z24z_L3 g n p1 p2 p3 (fun z0 => K (.exit 0) (mkSt 45 1 [(0, .own 143 0)] [(0, some (.row 143 z0))])) | _ => fun _ => none
noncomputable def code_86 : Code := (Tryz.f86.body).getD .skip
noncomputable def E_z24z (g : C_z24z) : Env A := mkE [(133, SS_z43z g.z43z)] [] [(3, ⟨[0, 7, 8], [], [0], [], [], [], []⟩)] [(3, ⟨[0], [], [0], [], [], [], []⟩)] [(3, pieceOf sh_z24z_L3 (LP_z24z_L3 g g.N))] [] [] [] [(133, 0)] []
theorem ct_z24z [Fuel] : NatTab (E_z24z I_z24z).C := ct_of (P := Tryz.prog) (T := T) (.cons ok_z43z .nil) (by kernel_rfl)
noncomputable def cb_z24z_L3 : Code := sub [1, 1, 0, 1, 0, 0] code_86
theorem s_z24z_L3 (g : C_z24z) (n : Nat) : StepOk (E_z24z g) g.N cb_z24z_L3 sh_z24z_L3 (LP_z24z_L3 g) n := by intro ps; unfold LP_z24z_L3; split; exact .inr fun R K => (by kernel_rfl); exact .inl fun R K => rfl
theorem lf_z24z_L3 [Fuel] : LoopFine (E_z24z I_z24z) NN cb_z24z_L3 := fine_loop sh_z24z_L3 (LP_z24z_L3 I_z24z) (by kernel_rfl) ct_z24z (cuts0 (fun _ => rfl) (by kernel_rfl)) (fun ps R K => by unfold LP_z24z_L3; split <;> (try unfold z24z_L3) <;> rfl) (s_z24z_L3 I_z24z)
theorem sm_z24z (g : C_z24z) : Same (SS_z24z (@z24z_ g)) (abody (E_z24z g) Tryz.f86 code_86 1 [0] [.arr 143] g.N) := by intro args; unfold SS_z24z; split; exact .inr fun R k => (by kernel_rfl); exact .inl fun R k => rfl
theorem ok_z24z [Fuel] : Ok 86 (SS_z24z (@z24z _)) := okF_of std (.cons ok_z43z .nil) ⟨rfl, rfl, by kernel_rfl, rfl, rfl, rfl⟩ (sm_z24z I_z24z) (cutsL (fun _ => rfl) (.cons lf_z24z_L3 .nil) (by kernel_rfl)) Tryz.func86 (by kernel_rfl) (by kernel_rfl)
abbrev T_club_Table : Type 1 := List G_Entrant → List UInt8 → {R : Type} → (List G_Place → Int → Option R) → Option R
structure C_club_Table where
 N : Nat
 kit_IsKey : T_kit_IsKey
 z38z : T_z38z
 z24z : T_z24z
def club_Table_L8 (g : C_club_Table) : Nat → List UInt8 → List G_Entrant → Int → Int → List G_Place → {R : Type} → (List G_Place → Option R) → Option R
 | 0, _, _, _, _, _, _, _ => none
 | n + 1, v5, v6, v7, v8, v9, _, e0 => (bif (decide (v8 < v7)) then (get_ v6 v8 fun x11 => (bif (x11.f_Category == v5) then (bif (decide ((v9.length + [(⟨0, x11.f_Points, x11.f_Call⟩ : G_Place)].length) * 32 ≤ roomBytes')) then club_Table_L8 g n v5 v6 v7 (w64 (v8 + 1)) (v9 ++ [(⟨0, x11.f_Points, x11.f_Call⟩ : G_Place)]) e0 else none) else club_Table_L8 g n v5 v6 v7 (w64 (v8 + 1)) v9 e0)) else e0 v9)
def club_Table_ (g : C_club_Table) (a1 : List G_Entrant) (a2 : List UInt8) {R : Type} (k0 : List G_Place → Int → Option R) : Option R :=
 (g.z38z a1 (fun r3 => (bif (r3 != 0) then k0 [] r3 else (g.kit_IsKey a2 (fun r4 => (bif (!r4) then k0 [] 5 else (club_Table_L8 g g.N a2 a1 (a1.length : Int) 0 [] (fun e12 => (g.z24z e12 (fun r13 => k0 r13 0))))))))))
noncomputable def I_club_Table [Fuel] : C_club_Table := ⟨NN, @kit_IsKey _, @z38z _, @z24z _⟩
noncomputable def club_Table [Fuel] : T_club_Table := @club_Table_ I_club_Table
def SS_club_Table (g : T_club_Table) : Spec A := fun args => match args with | [.d (.sl 88 a1), .d (.str a2)] => fun k => g a1 a2 (fun z0 z1 => k (.tup [.arr 143 z0, .d (.int .i64 z1)]) [.undef, .undef]) | _ => fun _ => none
def sh_club_Table_L8 : SSt := mkSh 39 5 [(1, .str), (7, .own 143 0), (18, .sl 88), (19, .int .i64), (20, .int .i64)] [(0, .row 143)]
def LP_club_Table_L8 (g : C_club_Table) (n : Nat) : LPT A := fun ps => match ps with | [.d (.str p1), .d (.sl 88 p2), .d (.int .i64 p3), .d (.int .i64 p4), .d (.sl 143 p5)] => fun K => club_Table_L8 g n p1 p2 p3 p4 p5 (fun z0 => K (.exit 0) (mkSt 39 5 [(7, .own 143 0)] [(0, some (.row 143 z0))])) | _ => fun _ => none
noncomputable def code_46 : Code := (Tryz.f46.body).getD .skip
noncomputable def E_club_Table (g : C_club_Table) : Env A := mkE [(80, SS_kit_IsKey g.kit_IsKey), (85, SS_z38z g.z38z), (86, SS_z24z g.z24z)] [(9, [1]), (34, [2]), (35, [3]), (38, [4])] [(8, ⟨[1, 7, 18, 19, 20], [(7, 143, 0)], [], [], [], [], []⟩)] [(8, ⟨[7], [], [0], [], [], [], []⟩)] [(8, pieceOf sh_club_Table_L8 (LP_club_Table_L8 g g.N))] [] [] [] [(86, 0)] []
theorem ct_club_Table [Fuel] : NatTab (E_club_Table I_club_Table).C := ct_of (P := Tryz.prog) (T := T) (.cons ok_kit_IsKey (.cons ok_z38z (.cons ok_z24z .nil))) (by kernel_rfl)
noncomputable def cb_club_Table_L8 : Code := sub [1, 1, 1, 1, 0, 1, 0, 0] code_46
theorem s_club_Table_L8 (g : C_club_Table) (n : Nat) : StepOk (E_club_Table g) g.N cb_club_Table_L8 sh_club_Table_L8 (LP_club_Table_L8 g) n := by intro ps; unfold LP_club_Table_L8; split; exact .inr fun R K => (by kernel_rfl); exact .inl fun R K => rfl
theorem lf_club_Table_L8 [Fuel] : LoopFine (E_club_Table I_club_Table) NN cb_club_Table_L8 := fine_loop sh_club_Table_L8 (LP_club_Table_L8 I_club_Table) (by kernel_rfl) ct_club_Table (cuts0 (fun _ => rfl) (by kernel_rfl)) (fun ps R K => by unfold LP_club_Table_L8; split <;> (try unfold club_Table_L8) <;> rfl) (s_club_Table_L8 I_club_Table)
theorem sm_club_Table (g : C_club_Table) : Same (SS_club_Table (@club_Table_ g)) (abody (E_club_Table g) Tryz.f46 code_46 5 [] [.arr 143, .asis] g.N) := by intro args; unfold SS_club_Table; split; exact .inr fun R k => (by kernel_rfl); exact .inl fun R k => rfl
theorem ok_club_Table [Fuel] : Ok 46 (SS_club_Table (@club_Table _)) := okF_of std (.cons ok_kit_IsKey (.cons ok_z38z (.cons ok_z24z .nil))) ⟨rfl, rfl, by kernel_rfl, rfl, rfl, rfl⟩ (sm_club_Table I_club_Table) (cutsL (fun _ => rfl) (.cons lf_club_Table_L8 .nil) (by kernel_rfl)) Tryz.func46 (by kernel_rfl) (by kernel_rfl)
abbrev T_z91z : Type 1 := G_Deed → {R : Type} → (Int → Option R) → Option R
structure C_z91z where
 N : Nat
 z61z : T_z61z
def z91z_ (g : C_z91z) (a1 : G_Deed) {R : Type} (k0 : Int → Option R) : Option R :=
 (g.z61z a1.f_Contact (fun r2 => (bif (r2 != 0) then k0 r2 else (bif (decide (a1.f_Contact.f_At > a1.f_At)) then k0 1 else k0 0))))
noncomputable def I_z91z [Fuel] : C_z91z := ⟨NN, @z61z _⟩
noncomputable def z91z [Fuel] : T_z91z := @z91z_ I_z91z
def SS_z91z (g : T_z91z) : Spec A := fun args => match args with | [.agg [.d (.str a1), .d (.int .i64 a2), .d (.int .i64 a3), .d (.int .i64 a4), .d (.int .i64 a5), .d (.int .i64 a6), .d (.str a7), .d (.str a8), .d (.int .i64 a9), .d (.int .i64 a10), .d (.str a11), .d (.str a12), .d (.str a13), .d (.str a14), .d (.int .i64 a15)]] => fun k => g ⟨a1, a2, a3, a4, ⟨a5, a6, a7, a8, a9, a10, a11, a12⟩, a13, a14, a15⟩ (fun z0 => k (.d (.int .i64 z0)) [.undef]) | _ => fun _ => none
noncomputable def code_259 : Code := (Tryz.f259.body).getD .skip
noncomputable def E_z91z (g : C_z91z) : Env A := mkE [(72, SS_z61z g.z61z)] [(1, [0])] [] [] [] [] [] [] [] []
theorem sm_z91z (g : C_z91z) : Same (SS_z91z (@z91z_ g)) (abody (E_z91z g) Tryz.f259 code_259 1 [] [.asis] g.N) := by intro args; unfold SS_z91z; split; exact .inr fun R k => (by kernel_rfl); exact .inl fun R k => rfl
theorem ok_z91z [Fuel] : Ok 259 (SS_z91z (@z91z _)) := okF_of std (.cons ok_z61z .nil) ⟨rfl, rfl, by kernel_rfl, rfl, rfl, rfl⟩ (sm_z91z I_z91z) (cuts0 (fun _ => rfl) (by kernel_rfl)) Tryz.func259 (by kernel_rfl) (by kernel_rfl)
abbrev T_z89z : Type 1 := G_Deed → {R : Type} → (Int → Option R) → Option R
structure C_z89z where
 N : Nat
 z44z : T_z44z
 kit_IsKey : T_kit_IsKey
 z91z : T_z91z
def z89z_ (g : C_z89z) (a1 : G_Deed) {R : Type} (k0 : Int → Option R) : Option R :=
 (bif (a1.f_Kind == 1) then (g.z91z a1 (fun r2 => k0 r2)) else (bif (a1.f_Kind == 2) then (g.kit_IsKey a1.f_Band (fun r3 => (bif (!r3) then k0 5 else k0 0))) else (bif (a1.f_Kind == 5) then (g.kit_IsKey a1.f_Of (fun r4 => (bif (!r4) then k0 5 else (g.z44z a1.f_Other 1 1000000 (fun r5 => (bif r5 then k0 1 else k0 0)))))) else (g.z44z a1.f_Contact.f_Sent 1 99999 (fun r6 => (bif r6 then k0 1 else k0 0))))))
noncomputable def I_z89z [Fuel] : C_z89z := ⟨NN, @z44z _, @kit_IsKey _, @z91z _⟩
noncomputable def z89z [Fuel] : T_z89z := @z89z_ I_z89z
def SS_z89z (g : T_z89z) : Spec A := fun args => match args with | [.agg [.d (.str a1), .d (.int .i64 a2), .d (.int .i64 a3), .d (.int .i64 a4), .d (.int .i64 a5), .d (.int .i64 a6), .d (.str a7), .d (.str a8), .d (.int .i64 a9), .d (.int .i64 a10), .d (.str a11), .d (.str a12), .d (.str a13), .d (.str a14), .d (.int .i64 a15)]] => fun k => g ⟨a1, a2, a3, a4, ⟨a5, a6, a7, a8, a9, a10, a11, a12⟩, a13, a14, a15⟩ (fun z0 => k (.d (.int .i64 z0)) [.undef]) | _ => fun _ => none
noncomputable def code_236 : Code := (Tryz.f236.body).getD .skip
noncomputable def E_z89z (g : C_z89z) : Env A := mkE [(42, SS_z44z g.z44z), (80, SS_kit_IsKey g.kit_IsKey), (259, SS_z91z g.z91z)] [(1, [0])] [] [] [] [] [] [] [] []
theorem sm_z89z (g : C_z89z) : Same (SS_z89z (@z89z_ g)) (abody (E_z89z g) Tryz.f236 code_236 1 [] [.asis] g.N) := by intro args; unfold SS_z89z; split; exact .inr fun R k => (by kernel_rfl); exact .inl fun R k => rfl
theorem ok_z89z [Fuel] : Ok 236 (SS_z89z (@z89z _)) := okF_of std (.cons ok_z44z (.cons ok_kit_IsKey (.cons ok_z91z .nil))) ⟨rfl, rfl, by kernel_rfl, rfl, rfl, rfl⟩ (sm_z89z I_z89z) (cuts0 (fun _ => rfl) (by kernel_rfl)) Tryz.func236 (by kernel_rfl) (by kernel_rfl)
abbrev T_net_idle : Type 1 := G_Deed → {R : Type} → (Bool → Option R) → Option R
def net_idle_ (g : Nat) (a1 : G_Deed) {R : Type} (k0 : Bool → Option R) : Option R :=
 (bif (a1.f_Kind == 3) then (bif (a1.f_Kind == 1) then (bif (a1.f_Kind == 2) then (bif (a1.f_Kind == 5) then k0 true else (bif (a1.f_Of == []) then k0 (a1.f_Other == 0) else k0 false)) else (bif (a1.f_Band == []) then (bif (a1.f_Kind == 5) then k0 true else (bif (a1.f_Of == []) then k0 (a1.f_Other == 0) else k0 false)) else k0 false)) else (bif (eq_G_Contact a1.f_Contact (⟨0, 0, [], [], a1.f_Contact.f_Sent, 0, [], []⟩ : G_Contact)) then (bif (a1.f_Kind == 2) then (bif (a1.f_Kind == 5) then k0 true else (bif (a1.f_Of == []) then k0 (a1.f_Other == 0) else k0 false)) else (bif (a1.f_Band == []) then (bif (a1.f_Kind == 5) then k0 true else (bif (a1.f_Of == []) then k0 (a1.f_Other == 0) else k0 false)) else k0 false)) else k0 false)) else (bif (a1.f_Kind == 4) then (bif (a1.f_Kind == 1) then (bif (a1.f_Kind == 2) then (bif (a1.f_Kind == 5) then k0 true else (bif (a1.f_Of == []) then k0 (a1.f_Other == 0) else k0 false)) else (bif (a1.f_Band == []) then (bif (a1.f_Kind == 5) then k0 true else (bif (a1.f_Of == []) then k0 (a1.f_Other == 0) else k0 false)) else k0 false)) else (bif (eq_G_Contact a1.f_Contact (⟨0, 0, [], [], a1.f_Contact.f_Sent, 0, [], []⟩ : G_Contact)) then (bif (a1.f_Kind == 2) then (bif (a1.f_Kind == 5) then k0 true else (bif (a1.f_Of == []) then k0 (a1.f_Other == 0) else k0 false)) else (bif (a1.f_Band == []) then (bif (a1.f_Kind == 5) then k0 true else (bif (a1.f_Of == []) then k0 (a1.f_Other == 0) else k0 false)) else k0 false)) else k0 false)) else (bif (a1.f_Kind == 1) then (bif (a1.f_Kind == 2) then (bif (a1.f_Kind == 5) then k0 true else (bif (a1.f_Of == []) then k0 (a1.f_Other == 0) else k0 false)) else (bif (a1.f_Band == []) then (bif (a1.f_Kind == 5) then k0 true else (bif (a1.f_Of == []) then k0 (a1.f_Other == 0) else k0 false)) else k0 false)) else (bif (eq_G_Contact a1.f_Contact (⟨0, 0, [], [], 0, 0, [], []⟩ : G_Contact)) then (bif (a1.f_Kind == 2) then (bif (a1.f_Kind == 5) then k0 true else (bif (a1.f_Of == []) then k0 (a1.f_Other == 0) else k0 false)) else (bif (a1.f_Band == []) then (bif (a1.f_Kind == 5) then k0 true else (bif (a1.f_Of == []) then k0 (a1.f_Other == 0) else k0 false)) else k0 false)) else k0 false))))
noncomputable def net_idle [Fuel] : T_net_idle := @net_idle_ NN
def SS_net_idle (g : T_net_idle) : Spec A := fun args => match args with | [.agg [.d (.str a1), .d (.int .i64 a2), .d (.int .i64 a3), .d (.int .i64 a4), .d (.int .i64 a5), .d (.int .i64 a6), .d (.str a7), .d (.str a8), .d (.int .i64 a9), .d (.int .i64 a10), .d (.str a11), .d (.str a12), .d (.str a13), .d (.str a14), .d (.int .i64 a15)]] => fun k => g ⟨a1, a2, a3, a4, ⟨a5, a6, a7, a8, a9, a10, a11, a12⟩, a13, a14, a15⟩ (fun z0 => k (.d (.bool z0)) [.undef]) | _ => fun _ => none
noncomputable def code_237 : Code := (Tryz.f237.body).getD .skip
noncomputable def E_net_idle (g : Nat) : Env A := mkE [] [(1, [0]), (5, [1])] [] [] [] [] [] [] [] []
theorem sm_net_idle (g : Nat) : Same (SS_net_idle (@net_idle_ g)) (abody (E_net_idle g) Tryz.f237 code_237 2 [] [.asis] g) := by intro args; unfold SS_net_idle; split; exact .inr fun R k => (by kernel_rfl); exact .inl fun R k => rfl
theorem ok_net_idle [Fuel] : Ok 237 (SS_net_idle (@net_idle _)) := okF_of std .nil ⟨rfl, rfl, by kernel_rfl, rfl, rfl, rfl⟩ (sm_net_idle NN) (cuts0 (fun _ => rfl) (by kernel_rfl)) Tryz.func237 (by kernel_rfl) (by kernel_rfl)
abbrev T_net_formed : Type 1 := G_Deed → {R : Type} → (Int → Option R) → Option R
structure C_net_formed where
 N : Nat
 z44z : T_z44z
 z55z : T_z55z
 kit_IsKey : T_kit_IsKey
 z89z : T_z89z
 net_idle : T_net_idle
def net_formed_ (g : C_net_formed) (a1 : G_Deed) {R : Type} (k0 : Int → Option R) : Option R :=
 (g.kit_IsKey a1.f_Site (fun r2 => (bif (!r2) then k0 5 else (g.z44z a1.f_No 1 1000000 (fun r3 => (bif r3 then k0 1 else (g.z55z a1.f_At (fun r4 => (bif (!r4) then k0 1 else (g.z44z a1.f_Kind 1 5 (fun r5 => (bif r5 then k0 4 else (g.z89z a1 (fun r6 => (bif (r6 != 0) then k0 r6 else (g.net_idle a1 (fun r7 => (bif (!r7) then k0 3 else k0 0))))))))))))))))))
noncomputable def I_net_formed [Fuel] : C_net_formed := ⟨NN, @z44z _, @z55z _, @kit_IsKey _, @z89z _, @net_idle _⟩
noncomputable def net_formed [Fuel] : T_net_formed := @net_formed_ I_net_formed
def SS_net_formed (g : T_net_formed) : Spec A := fun args => match args with | [.agg [.d (.str a1), .d (.int .i64 a2), .d (.int .i64 a3), .d (.int .i64 a4), .d (.int .i64 a5), .d (.int .i64 a6), .d (.str a7), .d (.str a8), .d (.int .i64 a9), .d (.int .i64 a10), .d (.str a11), .d (.str a12), .d (.str a13), .d (.str a14), .d (.int .i64 a15)]] => fun k => g ⟨a1, a2, a3, a4, ⟨a5, a6, a7, a8, a9, a10, a11, a12⟩, a13, a14, a15⟩ (fun z0 => k (.d (.int .i64 z0)) [.undef]) | _ => fun _ => none
noncomputable def code_214 : Code := (Tryz.f214.body).getD .skip
noncomputable def E_net_formed (g : C_net_formed) : Env A := mkE [(42, SS_z44z g.z44z), (74, SS_z55z g.z55z), (80, SS_kit_IsKey g.kit_IsKey), (236, SS_z89z g.z89z), (237, SS_net_idle g.net_idle)] [(1, [0])] [] [] [] [] [] [] [] []
theorem sm_net_formed (g : C_net_formed) : Same (SS_net_formed (@net_formed_ g)) (abody (E_net_formed g) Tryz.f214 code_214 1 [] [.asis] g.N) := by intro args; unfold SS_net_formed; split; exact .inr fun R k => (by kernel_rfl); exact .inl fun R k => rfl
theorem ok_net_formed [Fuel] : Ok 214 (SS_net_formed (@net_formed _)) := okF_of std (.cons ok_z44z (.cons ok_z55z (.cons ok_kit_IsKey (.cons ok_z89z (.cons ok_net_idle .nil))))) ⟨rfl, rfl, by kernel_rfl, rfl, rfl, rfl⟩ (sm_net_formed I_net_formed) (cuts0 (fun _ => rfl) (by kernel_rfl)) Tryz.func214 (by kernel_rfl) (by kernel_rfl)
end Go.Am
