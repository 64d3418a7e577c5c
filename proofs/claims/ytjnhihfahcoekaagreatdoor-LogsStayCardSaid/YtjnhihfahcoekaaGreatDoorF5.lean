/- The functions of the program as Lean functions, each shown to be what the code computes, part 5. No condition: lemmas for the claim. -/
import Derived.Test.YtjnhihfahcoekaaGreatDoorF0
import Derived.Test.YtjnhihfahcoekaaGreatDoorFSh
import Derived.Test.YtjnhihfahcoekaaGreatDoorF1
import Derived.Test.YtjnhihfahcoekaaGreatDoorF4
set_option linter.unusedVariables false
set_option maxRecDepth 100000
namespace Go.Am
open Go Go.Proofs
abbrev T_z56z : Type 1 := G_Contact → {R : Type} → (Int → Option R) → Option R
structure C_z56z where
 N : Nat
 z45z : T_z45z
 kit_IsKey : T_kit_IsKey
 kit_IsMode : T_kit_IsMode
 z62z : T_z62z
 call_Is : T_call_Is
 kit_IsName : T_kit_IsName
def z56z_ (g : C_z56z) (a1 : G_Contact) {R : Type} (k0 : Int → Option R) : Option R :=
 (g.z62z a1.f_At (fun r2 => (bif (!r2) then k0 1 else (g.kit_IsMode a1.f_Mode (fun r3 => (bif (!r3) then k0 4 else (g.kit_IsKey a1.f_Band (fun r4 => (bif (!r4) then k0 5 else (g.call_Is a1.f_Call (fun r5 => (bif (!r5) then k0 3 else (g.z45z a1.f_Sent 0 99999 (fun r6 => (bif r6 then k0 1 else (g.z45z a1.f_Heard 0 99999 (fun r7 => (bif r7 then k0 1 else (g.kit_IsName a1.f_Gave (fun r8 => (bif (!r8) then k0 5 else (g.kit_IsName a1.f_Got (fun r9 => (bif (!r9) then k0 5 else k0 0))))))))))))))))))))))))
noncomputable def I_z56z [Fuel] : C_z56z := ⟨NN, @z45z _, @kit_IsKey _, @kit_IsMode _, @z62z _, @call_Is _, @kit_IsName _⟩
noncomputable def z56z [Fuel] : T_z56z := @z56z_ I_z56z
def SS_z56z (g : T_z56z) : Spec A := fun args => match args with | [.agg [.d (.int .i64 a1), .d (.int .i64 a2), .d (.str a3), .d (.str a4), .d (.int .i64 a5), .d (.int .i64 a6), .d (.str a7), .d (.str a8)]] => fun k => g ⟨a1, a2, a3, a4, a5, a6, a7, a8⟩ (fun z0 => k (.d (.int .i64 z0)) [.undef]) | _ => fun _ => none
noncomputable def code_52 : Code := (Tryz.f52.body).getD .skip
noncomputable def E_z56z (g : C_z56z) : Env A := mkE [(28, SS_z45z g.z45z), (58, SS_kit_IsKey g.kit_IsKey), (59, SS_kit_IsMode g.kit_IsMode), (60, SS_z62z g.z62z), (78, SS_call_Is g.call_Is), (79, SS_kit_IsName g.kit_IsName)] [(1, [0])] [] [] [] [] [] [] [] []
theorem sm_z56z (g : C_z56z) : Same (SS_z56z (@z56z_ g)) (abody (E_z56z g) Tryz.f52 code_52 1 [] [.asis] g.N) := by intro args; unfold SS_z56z; split; exact .inr fun R k => (by kernel_rfl); exact .inl fun R k => rfl
theorem ok_z56z [Fuel] : Ok 52 (SS_z56z (@z56z _)) := okF_of std (.cons ok_z45z (.cons ok_kit_IsKey (.cons ok_kit_IsMode (.cons ok_z62z (.cons ok_call_Is (.cons ok_kit_IsName .nil)))))) ⟨rfl, rfl, by kernel_rfl, rfl, rfl, rfl⟩ (sm_z56z I_z56z) (cuts0 (fun _ => rfl) (by kernel_rfl)) Tryz.func52 (by kernel_rfl) (by kernel_rfl)
abbrev T_z73z : Type 1 := Int → {R : Type} → (Bool → Option R) → Option R
def z73z_ (g : Nat) (a1 : Int) {R : Type} (k0 : Bool → Option R) : Option R :=
 k0 (a1 != a1)
noncomputable def z73z [Fuel] : T_z73z := @z73z_ NN
def SS_z73z (g : T_z73z) : Spec A := fun args => match args with | [.d (.int .i64 a1)] => fun k => g a1 (fun z0 => k (.d (.bool z0)) [.undef]) | _ => fun _ => none
noncomputable def code_76 : Code := (Tryz.f76.body).getD .skip
noncomputable def E_z73z (g : Nat) : Env A := mkE [] [] [] [] [] [] [] [] [] []
theorem sm_z73z (g : Nat) : Same (SS_z73z (@z73z_ g)) (abody (E_z73z g) Tryz.f76 code_76 0 [] [.asis] g) := by intro args; unfold SS_z73z; split; exact .inr fun R k => (by kernel_rfl); exact .inl fun R k => rfl
theorem ok_z73z [Fuel] : Ok 76 (SS_z73z (@z73z _)) := okF_of std .nil ⟨rfl, rfl, by kernel_rfl, rfl, rfl, rfl⟩ (sm_z73z NN) (cuts0 (fun _ => rfl) (by kernel_rfl)) Tryz.func76 (by kernel_rfl) (by kernel_rfl)
noncomputable def Ed_z73z (g : Nat) : Env A := mkED [] [] [] [] [] [] [] [] [] []
theorem smd_z73z (g : Nat) : Same (SS_z73z (@z73z_ g)) (abody (Ed_z73z g) Tryz.f76 code_76 0 [] [.asis] g) := by intro args; unfold SS_z73z; split; exact .inr fun R k => (by kernel_rfl); exact .inl fun R k => rfl
theorem okd_z73z [Fuel] : OkD 76 (SS_z73z (@z73z _)) := okF_of stdD .nil ⟨rfl, rfl, by kernel_rfl, rfl, rfl, rfl⟩ (smd_z73z NN) (cuts0 (fun _ => rfl) (by kernel_rfl)) Tryz.func76 (by kernel_rfl) (by kernel_rfl)
abbrev T_z33z : Type 1 := Int → Int → {R : Type} → (Int → Option R) → Option R
structure C_z33z where
 N : Nat
 z73z : T_z73z
def z33z_ (g : C_z33z) (a1 a2 : Int) {R : Type} (k0 : Int → Option R) : Option R :=
 (g.z73z a1 (fun r3 => (g.z73z a2 (fun r4 => (bif r3 then (bif r4 then k0 0 else k0 (-1)) else (bif r4 then k0 1 else (bif (decide (a1 < a2)) then k0 (-1) else (bif (decide (a1 > a2)) then k0 1 else k0 0))))))))
noncomputable def I_z33z [Fuel] : C_z33z := ⟨NN, @z73z _⟩
noncomputable def z33z [Fuel] : T_z33z := @z33z_ I_z33z
def SS_z33z (g : T_z33z) : Spec A := fun args => match args with | [.d (.int .i64 a1), .d (.int .i64 a2)] => fun k => g a1 a2 (fun z0 => k (.d (.int .i64 z0)) [.undef, .undef]) | _ => fun _ => none
noncomputable def code_50 : Code := (Tryz.f50.body).getD .skip
noncomputable def E_z33z (g : C_z33z) : Env A := mkE [(76, SS_z73z g.z73z)] [] [] [] [] [] [] [] [] []
theorem sm_z33z (g : C_z33z) : Same (SS_z33z (@z33z_ g)) (abody (E_z33z g) Tryz.f50 code_50 0 [] [.asis] g.N) := by intro args; unfold SS_z33z; split; exact .inr fun R k => (by kernel_rfl); exact .inl fun R k => rfl
theorem ok_z33z [Fuel] : Ok 50 (SS_z33z (@z33z _)) := okF_of std (.cons ok_z73z .nil) ⟨rfl, rfl, by kernel_rfl, rfl, rfl, rfl⟩ (sm_z33z I_z33z) (cuts0 (fun _ => rfl) (by kernel_rfl)) Tryz.func50 (by kernel_rfl) (by kernel_rfl)
noncomputable def Ed_z33z (g : C_z33z) : Env A := mkED [(76, SS_z73z g.z73z)] [] [] [] [] [] [] [] [] []
theorem smd_z33z (g : C_z33z) : Same (SS_z33z (@z33z_ g)) (abody (Ed_z33z g) Tryz.f50 code_50 0 [] [.asis] g.N) := by intro args; unfold SS_z33z; split; exact .inr fun R k => (by kernel_rfl); exact .inl fun R k => rfl
theorem okd_z33z [Fuel] : OkD 50 (SS_z33z (@z33z _)) := okF_of stdD (.cons okd_z73z .nil) ⟨rfl, rfl, by kernel_rfl, rfl, rfl, rfl⟩ (smd_z33z I_z33z) (cuts0 (fun _ => rfl) (by kernel_rfl)) Tryz.func50 (by kernel_rfl) (by kernel_rfl)
abbrev T_z29z : Type 1 := List Int → {R : Type} → (Int → Option R) → Option R
def z29z_L3 (g : Nat) : Nat → Int → List Int → Int → Int → {R : Type} → (Int → Int → Option R) → (Int → Option R) → Option R
 | 0, _, _, _, _, _, _, _ => none
 | n + 1, v2, v3, v4, v5, _, e0, e1 => (bif (decide (v5 < v4)) then (get_ v3 v5 fun x7 => (bif (x7 != v2) then e0 x7 v2 else z29z_L3 g n v2 v3 v4 (w64 (v5 + 1)) e0 e1)) else e1 v2)
def z29z_ (g : Nat) (a1 : List Int) {R : Type} (k0 : Int → Option R) : Option R :=
 (z29z_L3 g g 0 a1 (a1.length : Int) 0 (fun e8 e9 => k0 e8) (fun e10 => k0 e10))
noncomputable def z29z [Fuel] : T_z29z := @z29z_ NN
def SS_z29z (g : T_z29z) : Spec A := fun args => match args with | [.d (.sl 3 a1)] => fun k => g a1 (fun z0 => k (.d (.int .i64 z0)) [.undef]) | _ => fun _ => none
def sh_z29z_L3 : SSt := mkSh 18 0 [(3, .int .i64), (6, .sl 3), (7, .int .i64), (8, .int .i64)] []
def LP_z29z_L3 (g : Nat) (n : Nat) : LPT A := fun ps => match ps with | [.d (.int .i64 p1), .d (.sl 3 p2), .d (.int .i64 p3), .d (.int .i64 p4)] => fun K => z29z_L3 g n p1 p2 p3 p4 (fun z0 z1 => K .ret (mkSt 18 0 [(2, .d (.int .i64 z0)), (3, .d (.int .i64 z1))] [])) (fun z0 => K (.exit 0) (mkSt 18 0 [(3, .d (.int .i64 z0))] [])) | _ => fun _ => none
noncomputable def code_49 : Code := (Tryz.f49.body).getD .skip
noncomputable def E_z29z (g : Nat) : Env A := mkE [] [] [(3, ⟨[3, 6, 7, 8], [], [], [], [], []⟩)] [(3, ⟨[2, 3], [], [], [], [], []⟩)] [(3, pieceOf sh_z29z_L3 (LP_z29z_L3 g g))] [] [] [] [] []
theorem ct_z29z [Fuel] : NatTab (E_z29z NN).C := ct_of (P := Tryz.prog) (T := T) .nil (by kernel_rfl)
noncomputable def cb_z29z_L3 : Code := sub [1, 1, 0, 1, 0, 0] code_49
theorem s_z29z_L3 (g : Nat) (n : Nat) : StepOk (E_z29z g) g cb_z29z_L3 sh_z29z_L3 (LP_z29z_L3 g) n := by intro ps; unfold LP_z29z_L3; split; exact .inr fun R K => (by kernel_rfl); exact .inl fun R K => rfl
theorem lf_z29z_L3 [Fuel] : LoopFine (E_z29z NN) NN cb_z29z_L3 := fine_loop sh_z29z_L3 (LP_z29z_L3 NN) (by kernel_rfl) ct_z29z (cuts0 (fun _ => rfl) (by kernel_rfl)) (fun ps R K => by unfold LP_z29z_L3; split <;> (try unfold z29z_L3) <;> rfl) (s_z29z_L3 NN)
theorem sm_z29z (g : Nat) : Same (SS_z29z (@z29z_ g)) (abody (E_z29z g) Tryz.f49 code_49 0 [] [.asis] g) := by intro args; unfold SS_z29z; split; exact .inr fun R k => (by kernel_rfl); exact .inl fun R k => rfl
theorem ok_z29z [Fuel] : Ok 49 (SS_z29z (@z29z _)) := okF_of std .nil ⟨rfl, rfl, by kernel_rfl, rfl, rfl, rfl⟩ (sm_z29z NN) (cutsL (fun _ => rfl) (.cons lf_z29z_L3 .nil) (by kernel_rfl)) Tryz.func49 (by kernel_rfl) (by kernel_rfl)
noncomputable def Ed_z29z (g : Nat) : Env A := mkED [] [] [(3, ⟨[3, 6, 7, 8], [], [], [], [], []⟩)] [(3, ⟨[2, 3], [], [], [], [], []⟩)] [(3, pieceOf sh_z29z_L3 (LP_z29z_L3 g g))] [] [] [] [] []
theorem ctd_z29z [Fuel] : NatTab (Ed_z29z NN).C := ct_of (P := Tryz.prog) (T := TD) .nil (by kernel_rfl)
theorem sd_z29z_L3 (g : Nat) (n : Nat) : StepOk (Ed_z29z g) g cb_z29z_L3 sh_z29z_L3 (LP_z29z_L3 g) n := by intro ps; unfold LP_z29z_L3; split; exact .inr fun R K => (by kernel_rfl); exact .inl fun R K => rfl
theorem lfd_z29z_L3 [Fuel] : LoopFine (Ed_z29z NN) NN cb_z29z_L3 := fine_loop sh_z29z_L3 (LP_z29z_L3 NN) (by kernel_rfl) ctd_z29z (cuts0 (fun _ => rfl) (by kernel_rfl)) (fun ps R K => by unfold LP_z29z_L3; split <;> (try unfold z29z_L3) <;> rfl) (sd_z29z_L3 NN)
theorem smd_z29z (g : Nat) : Same (SS_z29z (@z29z_ g)) (abody (Ed_z29z g) Tryz.f49 code_49 0 [] [.asis] g) := by intro args; unfold SS_z29z; split; exact .inr fun R k => (by kernel_rfl); exact .inl fun R k => rfl
theorem okd_z29z [Fuel] : OkD 49 (SS_z29z (@z29z _)) := okF_of stdD .nil ⟨rfl, rfl, by kernel_rfl, rfl, rfl, rfl⟩ (smd_z29z NN) (cutsL (fun _ => rfl) (.cons lfd_z29z_L3 .nil) (by kernel_rfl)) Tryz.func49 (by kernel_rfl) (by kernel_rfl)
abbrev T_z6z : Type 1 := G_Contact → G_Contact → {R : Type} → (Int → Option R) → Option R
structure C_z6z where
 N : Nat
 z29z : T_z29z
 z33z : T_z33z
 strings_Compare : T_strings_Compare
def z6z_ (g : C_z6z) (a1 a2 : G_Contact) {R : Type} (k0 : Int → Option R) : Option R :=
 (g.z33z a1.f_At a2.f_At (fun r3 => (g.strings_Compare a1.f_Call a2.f_Call (fun r4 => (g.strings_Compare a1.f_Band a2.f_Band (fun r5 => (g.z33z a1.f_Mode a2.f_Mode (fun r6 => (g.z29z [r3, r4, r5, r6] (fun r7 => k0 r7))))))))))
noncomputable def I_z6z [Fuel] : C_z6z := ⟨NN, @z29z _, @z33z _, @strings_Compare _⟩
noncomputable def z6z [Fuel] : T_z6z := @z6z_ I_z6z
def SS_z6z (g : T_z6z) : Spec A := fun args => match args with | [.agg [.d (.int .i64 a1), .d (.int .i64 a2), .d (.str a3), .d (.str a4), .d (.int .i64 a5), .d (.int .i64 a6), .d (.str a7), .d (.str a8)], .agg [.d (.int .i64 a9), .d (.int .i64 a10), .d (.str a11), .d (.str a12), .d (.int .i64 a13), .d (.int .i64 a14), .d (.str a15), .d (.str a16)]] => fun k => g ⟨a1, a2, a3, a4, a5, a6, a7, a8⟩ ⟨a9, a10, a11, a12, a13, a14, a15, a16⟩ (fun z0 => k (.d (.int .i64 z0)) [.undef, .undef]) | _ => fun _ => none
noncomputable def code_25 : Code := (Tryz.f25.body).getD .skip
noncomputable def E_z6z (g : C_z6z) : Env A := mkE [(49, SS_z29z g.z29z), (50, SS_z33z g.z33z), (51, SS_strings_Compare g.strings_Compare)] [(2, [0]), (3, [1]), (25, [2])] [] [] [] [] [] [] [] []
theorem sm_z6z (g : C_z6z) : Same (SS_z6z (@z6z_ g)) (abody (E_z6z g) Tryz.f25 code_25 3 [] [.asis] g.N) := by intro args; unfold SS_z6z; split; exact .inr fun R k => (by kernel_rfl); exact .inl fun R k => rfl
theorem ok_z6z [Fuel] : Ok 25 (SS_z6z (@z6z _)) := okF_of std (.cons ok_z29z (.cons ok_z33z (.cons ok_strings_Compare .nil))) ⟨rfl, rfl, by kernel_rfl, rfl, rfl, rfl⟩ (sm_z6z I_z6z) (cuts0 (fun _ => rfl) (by kernel_rfl)) Tryz.func25 (by kernel_rfl) (by kernel_rfl)
noncomputable def Ed_z6z (g : C_z6z) : Env A := mkED [(49, SS_z29z g.z29z), (50, SS_z33z g.z33z), (51, SS_strings_Compare g.strings_Compare)] [(2, [0]), (3, [1]), (25, [2])] [] [] [] [] [] [] [] []
theorem smd_z6z (g : C_z6z) : Same (SS_z6z (@z6z_ g)) (abody (Ed_z6z g) Tryz.f25 code_25 3 [] [.asis] g.N) := by intro args; unfold SS_z6z; split; exact .inr fun R k => (by kernel_rfl); exact .inl fun R k => rfl
theorem okd_z6z [Fuel] : OkD 25 (SS_z6z (@z6z _)) := okF_of stdD (.cons okd_z29z (.cons okd_z33z (.cons okd_strings_Compare .nil))) ⟨rfl, rfl, by kernel_rfl, rfl, rfl, rfl⟩ (smd_z6z I_z6z) (cuts0 (fun _ => rfl) (by kernel_rfl)) Tryz.func25 (by kernel_rfl) (by kernel_rfl)
abbrev T_z13z : Type 1 := List G_Contact → {R : Type} → (Int → Option R) → Option R
structure C_z13z where
 N : Nat
 z6z : T_z6z
 z56z : T_z56z
def z13z_L4 (g : C_z13z) : Nat → List G_Contact → List G_Contact → Int → Int → {R : Type} → (Int → Option R) → Option R → Option R
 | 0, _, _, _, _, _, _, _ => none
 | n + 1, v2, v3, v4, v5, _, e0, e1 => (bif (decide (v5 < v4)) then (get_ v3 v5 fun x10 => (g.z56z x10 (fun r11 => (bif (r11 != 0) then e0 r11 else (bif (decide (v5 > 0)) then (get_ v2 (w64 (v5 - 1)) fun x12 => (g.z6z x12 x10 (fun r13 => (bif (decide (r13 ≥ 0)) then e0 7 else z13z_L4 g n v2 v3 v4 (w64 (v5 + 1)) e0 e1)))) else z13z_L4 g n v2 v3 v4 (w64 (v5 + 1)) e0 e1))))) else e1)
def z13z_ (g : C_z13z) (a1 : List G_Contact) {R : Type} (k0 : Int → Option R) : Option R :=
 (bif (decide ((a1.length : Int) > 2000)) then k0 2 else (z13z_L4 g g.N a1 a1 (a1.length : Int) 0 (fun e14 => k0 e14) (k0 0)))
noncomputable def I_z13z [Fuel] : C_z13z := ⟨NN, @z6z _, @z56z _⟩
noncomputable def z13z [Fuel] : T_z13z := @z13z_ I_z13z
def p_z13z (args : List (IV A)) : Bool := match args with | [.d (.sl 35 _)] => true | _ => false
def SS_z13z (g : T_z13z) : Spec A := fun args => match args with | [.d (.sl 35 a1)] => fun k => g a1 (fun z0 => k (.d (.int .i64 z0)) [.undef]) | _ => fun _ => none
def sh_z13z_L4 : SSt := mkSh 34 1 [(0, .sl 35), (9, .sl 35), (10, .int .i64), (11, .int .i64)] []
def LP_z13z_L4 (g : C_z13z) (n : Nat) : LPT A := fun ps => match ps with | [.d (.sl 35 p1), .d (.sl 35 p2), .d (.int .i64 p3), .d (.int .i64 p4)] => fun K => z13z_L4 g n p1 p2 p3 p4 (fun z0 => K .ret (mkSt 34 1 [(2, .d (.int .i64 z0))] [])) (K (.exit 0) (mkSt 34 1 [] [])) | _ => fun _ => none
noncomputable def code_27 : Code := (Tryz.f27.body).getD .skip
noncomputable def E_z13z (g : C_z13z) : Env A := mkE [(25, SS_z6z g.z6z), (52, SS_z56z g.z56z)] [(4, [0])] [(4, ⟨[0, 9, 10, 11], [], [], [], [], []⟩)] [(4, ⟨[2], [], [], [], [], []⟩)] [(4, pieceOf sh_z13z_L4 (LP_z13z_L4 g g.N))] [] [] [] [] []
theorem ct_z13z [Fuel] : NatTab (E_z13z I_z13z).C := ct_of (P := Tryz.prog) (T := T) (.cons ok_z6z (.cons ok_z56z .nil)) (by kernel_rfl)
noncomputable def cb_z13z_L4 : Code := sub [1, 1, 0, 1, 0, 0] code_27
theorem s_z13z_L4 (g : C_z13z) (n : Nat) : StepOk (E_z13z g) g.N cb_z13z_L4 sh_z13z_L4 (LP_z13z_L4 g) n := by intro ps; unfold LP_z13z_L4; split; exact .inr fun R K => (by kernel_rfl); exact .inl fun R K => rfl
theorem lf_z13z_L4 [Fuel] : LoopFine (E_z13z I_z13z) NN cb_z13z_L4 := fine_loop sh_z13z_L4 (LP_z13z_L4 I_z13z) (by kernel_rfl) ct_z13z (cuts0 (fun _ => rfl) (by kernel_rfl)) (fun ps R K => by unfold LP_z13z_L4; split <;> (try unfold z13z_L4) <;> rfl) (s_z13z_L4 I_z13z)
theorem sm_z13z (g : C_z13z) : Same (SS_z13z (@z13z_ g)) (abody (E_z13z g) Tryz.f27 code_27 1 [] [.asis] g.N) := by intro args; unfold SS_z13z; split; exact .inr fun R k => (by kernel_rfl); exact .inl fun R k => rfl
theorem ok_z13z [Fuel] : Ok 27 (SS_z13z (@z13z _)) := okF_of std (.cons ok_z6z (.cons ok_z56z .nil)) ⟨rfl, rfl, by kernel_rfl, rfl, rfl, rfl⟩ (sm_z13z I_z13z) (cutsL (fun _ => rfl) (.cons lf_z13z_L4 .nil) (by kernel_rfl)) Tryz.func27 (by kernel_rfl) (by kernel_rfl)
abbrev T_z54z : Type 1 := {R : Type} → (Int → Option R) → Option R
def z54z_L4 (g : Nat) : Nat → Int → Int → {R : Type} → Option R → Option R
 | 0, _, _, _, _ => none
 | n + 1, v1, v2, _, e0 => (bif (decide (v2 < v1)) then none else e0)
def z54z_ (g : Nat)  {R : Type} (k0 : Int → Option R) : Option R :=
 (z54z_L4 g g 0 0 (k0 0))
noncomputable def z54z [Fuel] : T_z54z := @z54z_ NN
def SS_z54z (g : T_z54z) : Spec A := fun args => match args with | [.d .nsl] => fun k => g (fun z0 => k (.d (.int .i64 z0)) [.undef]) | _ => fun _ => none
def sh_z54z_L4 : SSt := mkSh 34 0 [(0, .nsl), (9, .nsl), (10, .int .i64), (11, .int .i64)] []
def LP_z54z_L4 (g : Nat) (n : Nat) : LPT A := fun ps => match ps with | [.d (.int .i64 p1), .d (.int .i64 p2)] => fun K => z54z_L4 g n p1 p2 (K (.exit 0) (mkSt 34 0 [] [])) | _ => fun _ => none
noncomputable def E_z54z (g : Nat) : Env A := mkE [] [] [(4, ⟨[0, 9, 10, 11], [], [], [], [], []⟩)] [(4, ⟨[], [], [], [], [], []⟩)] [(4, pieceOf sh_z54z_L4 (LP_z54z_L4 g g))] [] [] [] [] []
theorem ct_z54z [Fuel] : NatTab (E_z54z NN).C := ct_of (P := Tryz.prog) (T := T) .nil (by kernel_rfl)
noncomputable def cb_z54z_L4 : Code := sub [1, 1, 0, 1, 0, 0] code_27
theorem s_z54z_L4 (g : Nat) (n : Nat) : StepOk (E_z54z g) g cb_z54z_L4 sh_z54z_L4 (LP_z54z_L4 g) n := by intro ps; unfold LP_z54z_L4; split; exact .inr fun R K => (by kernel_rfl); exact .inl fun R K => rfl
theorem lf_z54z_L4 [Fuel] : LoopFine (E_z54z NN) NN cb_z54z_L4 := fine_loop sh_z54z_L4 (LP_z54z_L4 NN) (by kernel_rfl) ct_z54z (cuts0 (fun _ => rfl) (by kernel_rfl)) (fun ps R K => by unfold LP_z54z_L4; split <;> (try unfold z54z_L4) <;> rfl) (s_z54z_L4 NN)
theorem sm_z54z (g : Nat) : Same (SS_z54z (@z54z_ g)) (abody (E_z54z g) Tryz.f27 code_27 0 [] [.asis] g) := by intro args; unfold SS_z54z; split; exact .inr fun R k => (by kernel_rfl); exact .inl fun R k => rfl
theorem ok_z54z [Fuel] : Ok 27 (SS_z54z (@z54z _)) := okF_of std .nil ⟨rfl, rfl, by kernel_rfl, rfl, rfl, rfl⟩ (sm_z54z NN) (cutsL (fun _ => rfl) (.cons lf_z54z_L4 .nil) (by kernel_rfl)) Tryz.func27 (by kernel_rfl) (by kernel_rfl)
abbrev T_z69z : Type 1 := List G_Contact → {R : Type} → (Int → Option R) → Option R
structure C_z69z where
 N : Nat
 z13z : T_z13z
 z54z : T_z54z
def z69z_ (g : C_z69z) (a1 : List G_Contact) {R : Type} (k0 : Int → Option R) : Option R :=
 (g.z13z a1 (fun r2 => (bif (r2 != 0) then k0 r2 else (g.z54z (fun r3 => k0 r3)))))
noncomputable def I_z69z [Fuel] : C_z69z := ⟨NN, @z13z _, @z54z _⟩
noncomputable def z69z [Fuel] : T_z69z := @z69z_ I_z69z
def SS_z69z (g : T_z69z) : Spec A := fun args => match args with | [.d (.sl 35 a1), .d .nsl] => fun k => g a1 (fun z0 => k (.d (.int .i64 z0)) [.undef, .undef]) | _ => fun _ => none
noncomputable def code_22 : Code := (Tryz.f22.body).getD .skip
noncomputable def E_z69z (g : C_z69z) : Env A := mkE [(27, orS p_z13z (SS_z13z g.z13z) (SS_z54z g.z54z))] [] [] [] [] [] [] [] [] []
theorem sm_z69z (g : C_z69z) : Same (SS_z69z (@z69z_ g)) (abody (E_z69z g) Tryz.f22 code_22 0 [] [.asis] g.N) := by intro args; unfold SS_z69z; split; exact .inr fun R k => (by kernel_rfl); exact .inl fun R k => rfl
theorem ok_z69z [Fuel] : Ok 22 (SS_z69z (@z69z _)) := okF_of std (.cons (ok_or p_z13z ok_z13z ok_z54z) .nil) ⟨rfl, rfl, by kernel_rfl, rfl, rfl, rfl⟩ (sm_z69z I_z69z) (cuts0 (fun _ => rfl) (by kernel_rfl)) Tryz.func22 (by kernel_rfl) (by kernel_rfl)
abbrev T_z67z : Type 1 := Int → {R : Type} → (List G_Contact → Option R) → Option R
def z67z [Fuel] : T_z67z := @X_grow G_Contact 96
def SS_z67z (g : T_z67z) : Spec A := fun args => match args with | [.d .nsl, .d (.int .i64 x1)] => fun k => g x1 (fun z => k (.arr 35 z) [.undef, .undef]) | _ => fun _ => none
theorem h1_z67z [Fuel] (xs : Int) (R : Type) (k : IV A → List (IV A) → Option R) : SS_z67z (@z67z _) [.d .nsl, .d (.int .i64 xs)] k = X_grow (α := A 35) 96 xs (fun z => k (.arr 35 z) [.undef, .undef]) := by kernel_rfl
theorem h2_z67z [Fuel] (args : List (IV A)) (R : Type) (k : IV A → List (IV A) → Option R) (h : ∀ xs : Int, args ≠ [.d .nsl, .d (.int .i64 xs)]) : SS_z67z (@z67z _) args k = none := by unfold SS_z67z; split; exact absurd rfl (h _); rfl
theorem ok_z67z [Fuel] : Ok 47 (SS_z67z (@z67z _)) := ⟨grow_fs (grow_sound rfl (tyOk Tryz.prog) (e := 35) (size := 8) (bytes := 96) (ty := 35) (by kernel_rfl) (fun w => grow_0 Tryz.grow47 w) (fun n w hn hb hm => grow_h Tryz.grow47 Tryz.ti35 Tryz.zv35 (by kernel_rfl) (by kernel_rfl) 8 96 (by kernel_rfl) (by kernel_rfl) (by decide) (by kernel_rfl) n w hn hb hm)) h1_z67z h2_z67z, grow_na h1_z67z h2_z67z, enters_of (fn := Tryz.f47) Tryz.func47 (by kernel_rfl) (by kernel_rfl)⟩
abbrev T_z10z : Type 1 := List (List G_Contact) → {R : Type} → (List G_Contact → Option R) → Option R
structure C_z10z where
 N : Nat
 z67z : T_z67z
def z10z_L3 (g : C_z10z) : Nat → List (List G_Contact) → Int → List (List G_Contact) → Int → Int → {R : Type} → (List (List G_Contact) → Int → Option R) → Option R
 | 0, _, _, _, _, _, _, _ => none
 | n + 1, v2, v3, v4, v5, v6, _, e0 => (bif (decide (v6 < v5)) then (get_ v4 v6 fun x8 => (bif (decide ((w64 (v3 + (x8.length : Int))) < 0)) then none else z10z_L3 g n v2 (w64 (v3 + (x8.length : Int))) v4 v5 (w64 (v6 + 1)) e0)) else e0 v2 v3)
def z10z_L11 (g : C_z10z) : Nat → List (List G_Contact) → Int → Int → List G_Contact → {R : Type} → (List G_Contact → Option R) → Option R
 | 0, _, _, _, _, _, _ => none
 | n + 1, v12, v13, v14, v15, _, e0 => (bif (decide (v14 < v13)) then (get_ v12 v14 fun x17 => (bif (decide ((v15.length + x17.length) * 96 ≤ roomBytes')) then z10z_L11 g n v12 v13 (w64 (v14 + 1)) (v15 ++ x17) e0 else none)) else e0 v15)
def z10z_ (g : C_z10z) (a1 : List (List G_Contact)) {R : Type} (k0 : List G_Contact → Option R) : Option R :=
 (z10z_L3 g g.N a1 0 a1 (a1.length : Int) 0 (fun e9 e10 => (g.z67z e10 (fun r11 => (z10z_L11 g g.N e9 (e9.length : Int) 0 r11 (fun e18 => k0 e18))))))
noncomputable def I_z10z [Fuel] : C_z10z := ⟨NN, @z67z _⟩
noncomputable def z10z [Fuel] : T_z10z := @z10z_ I_z10z
def SS_z10z (g : T_z10z) : Spec A := fun args => match args with | [.d (.sl 26 a1)] => fun k => g a1 (fun z0 => k (.arr 35 z0) [.undef]) | _ => fun _ => none
def sh_z10z_L3 : SSt := mkSh 36 3 [(0, .sl 26), (3, .int .i64), (9, .sl 26), (10, .int .i64), (11, .int .i64)] []
def LP_z10z_L3 (g : C_z10z) (n : Nat) : LPT A := fun ps => match ps with | [.d (.sl 26 p1), .d (.int .i64 p2), .d (.sl 26 p3), .d (.int .i64 p4), .d (.int .i64 p5)] => fun K => z10z_L3 g n p1 p2 p3 p4 p5 (fun z0 z1 => K (.exit 0) (mkSt 36 3 [(0, .d (.sl 26 z0)), (3, .d (.int .i64 z1))] [])) | _ => fun _ => none
def sh_z10z_L11 : SSt := mkSh 36 3 [(6, .own 35 1), (25, .sl 26), (26, .int .i64), (27, .int .i64)] [(1, .row 35)]
def LP_z10z_L11 (g : C_z10z) (n : Nat) : LPT A := fun ps => match ps with | [.d (.sl 26 p1), .d (.int .i64 p2), .d (.int .i64 p3), .d (.sl 35 p4)] => fun K => z10z_L11 g n p1 p2 p3 p4 (fun z0 => K (.exit 2) (mkSt 36 3 [(6, .own 35 1)] [(1, some (.row 35 z0))])) | _ => fun _ => none
noncomputable def code_23 : Code := (Tryz.f23.body).getD .skip
noncomputable def E_z10z (g : C_z10z) : Env A := mkE [(47, SS_z67z g.z67z)] [(24, [0]), (33, [2])] [(3, ⟨[0, 3, 9, 10, 11], [], [], [], [], []⟩), (11, ⟨[6, 25, 26, 27], [(6, 35, 1)], [], [], [], []⟩)] [(3, ⟨[0, 3], [], [], [], [], []⟩), (11, ⟨[6], [], [1], [], [], []⟩)] [(3, pieceOf sh_z10z_L3 (LP_z10z_L3 g g.N)), (11, pieceOf sh_z10z_L11 (LP_z10z_L11 g g.N))] [] [] [] [(47, 0)] []
theorem ct_z10z [Fuel] : NatTab (E_z10z I_z10z).C := ct_of (P := Tryz.prog) (T := T) (.cons ok_z67z .nil) (by kernel_rfl)
noncomputable def cb_z10z_L3 : Code := sub [1, 1, 0, 1, 0, 0] code_23
theorem s_z10z_L3 (g : C_z10z) (n : Nat) : StepOk (E_z10z g) g.N cb_z10z_L3 sh_z10z_L3 (LP_z10z_L3 g) n := by intro ps; unfold LP_z10z_L3; split; exact .inr fun R K => (by kernel_rfl); exact .inl fun R K => rfl
theorem lf_z10z_L3 [Fuel] : LoopFine (E_z10z I_z10z) NN cb_z10z_L3 := fine_loop sh_z10z_L3 (LP_z10z_L3 I_z10z) (by kernel_rfl) ct_z10z (cuts0 (fun _ => rfl) (by kernel_rfl)) (fun ps R K => by unfold LP_z10z_L3; split <;> (try unfold z10z_L3) <;> rfl) (s_z10z_L3 I_z10z)
noncomputable def cb_z10z_L11 : Code := sub [1, 1, 1, 1, 0, 1, 0, 0] code_23
theorem s_z10z_L11 (g : C_z10z) (n : Nat) : StepOk (E_z10z g) g.N cb_z10z_L11 sh_z10z_L11 (LP_z10z_L11 g) n := by intro ps; unfold LP_z10z_L11; split; exact .inr fun R K => (by kernel_rfl); exact .inl fun R K => rfl
theorem lf_z10z_L11 [Fuel] : LoopFine (E_z10z I_z10z) NN cb_z10z_L11 := fine_loop sh_z10z_L11 (LP_z10z_L11 I_z10z) (by kernel_rfl) ct_z10z (cuts0 (fun _ => rfl) (by kernel_rfl)) (fun ps R K => by unfold LP_z10z_L11; split <;> (try unfold z10z_L11) <;> rfl) (s_z10z_L11 I_z10z)
theorem sm_z10z (g : C_z10z) : Same (SS_z10z (@z10z_ g)) (abody (E_z10z g) Tryz.f23 code_23 3 [] [.arr 35] g.N) := by intro args; unfold SS_z10z; split; exact .inr fun R k => (by kernel_rfl); exact .inl fun R k => rfl
theorem ok_z10z [Fuel] : Ok 23 (SS_z10z (@z10z _)) := okF_of std (.cons ok_z67z .nil) ⟨rfl, rfl, by kernel_rfl, rfl, rfl, rfl⟩ (sm_z10z I_z10z) (cutsL (fun _ => rfl) (.cons lf_z10z_L3 (.cons lf_z10z_L11 .nil)) (by kernel_rfl)) Tryz.func23 (by kernel_rfl) (by kernel_rfl)
abbrev T_z3z : Type 1 := List G_Contact → Int → Int → {R : Type} → (List G_Contact → Option R) → Option R
structure C_z3z where
 N : Nat
 z6z : T_z6z
def z3z_L4 (g : C_z3z) : Nat → Int → Int → Int → Int → List G_Contact → {R : Type} → (Int → Int → Int → List G_Contact → Option R) → Option R
 | 0, _, _, _, _, _, _, _ => none
 | n + 1, v31, v32, v33, v34, v35, _, e0 => (bif (decide (v34 > v31)) then (inr v35 v34 (at_ v35 v34 fun x43 => (inr v35 (w64 (v34 - 1)) (at_ v35 (w64 (v34 - 1)) fun x44 => (g.z6z x43 x44 (fun r45 => (bif (decide (r45 < 0)) then (inr v35 (w64 (v34 - 1)) (at_ v35 (w64 (v34 - 1)) fun x46 => (inr v35 v34 (at_ v35 v34 fun x47 => (inr v35 v34 (at_ v35 v34 fun x48 => (inr (set_ v35 v34 x46) (w64 (v34 - 1)) (at_ (set_ v35 v34 x46) (w64 (v34 - 1)) fun x49 => z3z_L4 g n v31 v32 v33 (w64 (v34 - 1)) (set_ (set_ v35 v34 x46) (w64 (v34 - 1)) x47) e0)))))))) else e0 v31 v32 v33 v35))))))) else e0 v31 v32 v33 v35)
def z3z_L1 (g : C_z3z) : Nat → Int → Int → Int → List G_Contact → {R : Type} → (List G_Contact → Option R) → Option R
 | 0, _, _, _, _, _, _ => none
 | n + 1, v4, v5, v6, v7, _, e0 => (bif (decide (v6 < v5)) then (z3z_L4 g g.N v4 v5 v6 v6 v7 (fun e50 e51 e52 e53 => z3z_L1 g n e50 e51 (w64 (e52 + 1)) e53 e0)) else e0 v7)
def z3z_ (g : C_z3z) (a1 : List G_Contact) (a2 a3 : Int) {R : Type} (k0 : List G_Contact → Option R) : Option R :=
 (z3z_L1 g g.N a2 a3 (w64 (a2 + 1)) a1 (fun e54 => k0 e54))
noncomputable def I_z3z [Fuel] : C_z3z := ⟨NN, @z6z _⟩
noncomputable def z3z [Fuel] : T_z3z := @z3z_ I_z3z
def SS_z3z (g : T_z3z) : Spec A := fun args => match args with | [.arr 35 a1, .d (.int .i64 a2), .d (.int .i64 a3), .fn 25 []] => fun k => g a1 a2 a3 (fun z0 => k (.tup []) [.arr 35 z0, .undef, .undef, .fn 25 []]) | _ => fun _ => none
def sh_z3z_L4 : SSt := mkSh 53 1 [(0, .own 35 0), (1, .int .i64), (2, .int .i64), (3, .fn 25 []), (8, .int .i64), (9, .int .i64)] [(0, .row 35)]
def LP_z3z_L4 (g : C_z3z) (n : Nat) : LPT A := fun ps => match ps with | [.d (.int .i64 p1), .d (.int .i64 p2), .d (.int .i64 p3), .d (.int .i64 p4), .d (.sl 35 p5)] => fun K => z3z_L4 g n p1 p2 p3 p4 p5 (fun z0 z1 z2 z3 => K (.exit 2) (mkSt 53 1 [(0, .own 35 0), (1, .d (.int .i64 z0)), (2, .d (.int .i64 z1)), (3, .fn 25 []), (8, .d (.int .i64 z2))] [(0, some (.row 35 z3))])) | _ => fun _ => none
def sh_z3z_L1 : SSt := mkSh 53 1 [(0, .own 35 0), (1, .int .i64), (2, .int .i64), (3, .fn 25 []), (8, .int .i64)] [(0, .row 35)]
def LP_z3z_L1 (g : C_z3z) (n : Nat) : LPT A := fun ps => match ps with | [.d (.int .i64 p1), .d (.int .i64 p2), .d (.int .i64 p3), .d (.sl 35 p4)] => fun K => z3z_L1 g n p1 p2 p3 p4 (fun z0 => K (.exit 0) (mkSt 53 1 [(0, .own 35 0), (3, .fn 25 [])] [(0, some (.row 35 z0))])) | _ => fun _ => none
noncomputable def E_z3z (g : C_z3z) : Env A := mkE [(25, SS_z6z g.z6z)] [] [(4, ⟨[0, 1, 2, 3, 8, 9], [], [0], [], [], []⟩), (1, ⟨[0, 1, 2, 3, 8], [], [0], [], [], []⟩)] [(4, ⟨[0, 1, 2, 3, 8], [], [0], [], [], []⟩), (1, ⟨[0, 3], [], [0], [], [], []⟩)] [(4, pieceOf sh_z3z_L4 (LP_z3z_L4 g g.N)), (1, pieceOf sh_z3z_L1 (LP_z3z_L1 g g.N))] [] [] [] [] [0, 3]
theorem ct_z3z [Fuel] : NatTab (E_z3z I_z3z).C := ct_of (P := Tryz.prog) (T := T) (.cons ok_z6z .nil) (by kernel_rfl)
noncomputable def cb_z3z_L4 : Code := sub [1, 0, 0, 1, 0, 0, 1, 0, 0] code_74
theorem s_z3z_L4 (g : C_z3z) (n : Nat) : StepOk (E_z3z g) g.N cb_z3z_L4 sh_z3z_L4 (LP_z3z_L4 g) n := by intro ps; unfold LP_z3z_L4; split; exact .inr fun R K => (by kernel_rfl); exact .inl fun R K => rfl
theorem lf_z3z_L4 [Fuel] : LoopFine (E_z3z I_z3z) NN cb_z3z_L4 := fine_loop sh_z3z_L4 (LP_z3z_L4 I_z3z) (by kernel_rfl) ct_z3z (cuts0 (fun _ => rfl) (by kernel_rfl)) (fun ps R K => by unfold LP_z3z_L4; split <;> (try unfold z3z_L4) <;> rfl) (s_z3z_L4 I_z3z)
noncomputable def cb_z3z_L1 : Code := sub [1, 0, 0] code_74
theorem s_z3z_L1 (g : C_z3z) (n : Nat) : StepOk (E_z3z g) g.N cb_z3z_L1 sh_z3z_L1 (LP_z3z_L1 g) n := by intro ps; unfold LP_z3z_L1; split; exact .inr fun R K => (by kernel_rfl); exact .inl fun R K => rfl
theorem lf_z3z_L1 [Fuel] : LoopFine (E_z3z I_z3z) NN cb_z3z_L1 := fine_loop sh_z3z_L1 (LP_z3z_L1 I_z3z) (by kernel_rfl) ct_z3z (cutsL (fun _ => rfl) (.cons lf_z3z_L4 .nil) (by kernel_rfl)) (fun ps R K => by unfold LP_z3z_L1; split <;> (try unfold z3z_L1) <;> rfl) (s_z3z_L1 I_z3z)
theorem sm_z3z (g : C_z3z) : Same (SS_z3z (@z3z_ g)) (abody (E_z3z g) Tryz.f74 code_74 1 [0] [] g.N) := by intro args; unfold SS_z3z; split; exact .inr fun R k => (by kernel_rfl); exact .inl fun R k => rfl
theorem ok_z3z [Fuel] : Ok 74 (SS_z3z (@z3z _)) := okF_of std (.cons ok_z6z .nil) ⟨rfl, rfl, by kernel_rfl, rfl, rfl, rfl⟩ (sm_z3z I_z3z) (cutsL (fun _ => rfl) (.cons lf_z3z_L4 (.cons lf_z3z_L1 .nil)) (by kernel_rfl)) Tryz.func74 (by kernel_rfl) (by kernel_rfl)
end Go.Am
