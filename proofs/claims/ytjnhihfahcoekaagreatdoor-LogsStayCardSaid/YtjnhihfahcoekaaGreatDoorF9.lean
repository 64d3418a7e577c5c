/- The functions of the program as Lean functions, each shown to be what the code computes, part 9. No condition: lemmas for the claim. -/
import Derived.Test.YtjnhihfahcoekaaGreatDoorF0
import Derived.Test.YtjnhihfahcoekaaGreatDoorFSh
import Derived.Test.YtjnhihfahcoekaaGreatDoorF1
import Derived.Test.YtjnhihfahcoekaaGreatDoorF4
import Derived.Test.YtjnhihfahcoekaaGreatDoorF5
import Derived.Test.YtjnhihfahcoekaaGreatDoorF8
set_option linter.unusedVariables false
set_option maxRecDepth 100000
namespace Go.Am
open Go Go.Proofs
abbrev T_z11z : Type 1 := List G_Row → G_Row → {R : Type} → (Int → G_Row → Option R) → Option R
structure C_z11z where
 N : Nat
 band_May_1 : T_band_May_1
def z11z_L2 (g : C_z11z) : Nat → List G_Row → Int → Int → G_Row → {R : Type} → (Int → G_Row → Option R) → (G_Row → Option R) → Option R
 | 0, _, _, _, _, _, _, _ => none
 | n + 1, v3, v4, v5, v6, _, e0, e1 => (bif (decide (v5 < v4)) then (get_ v3 v5 fun x10 => (g.band_May_1 x10 v6 (fun r11 r12 => (bif r11 then e0 v5 r12 else z11z_L2 g n v3 v4 (w64 (v5 + 1)) r12 e0 e1)))) else e1 v6)
def z11z_ (g : C_z11z) (a1 : List G_Row) (a2 : G_Row) {R : Type} (k0 : Int → G_Row → Option R) : Option R :=
 (z11z_L2 g g.N a1 (a1.length : Int) 0 a2 (fun e13 e14 => k0 e13 e14) (fun e15 => k0 (-1) e15))
noncomputable def I_z11z [Fuel] : C_z11z := ⟨NN, @band_May_1 _⟩
noncomputable def z11z [Fuel] : T_z11z := @z11z_ I_z11z
def SS_z11z (g : T_z11z) : Spec A := fun args => match args with | [.d (.sl 101 a1), .fn 64 [.box [.d (.int .i64 a2), .d (.int .i64 a3)]]] => fun k => g a1 ⟨a2, a3⟩ (fun z0 z1 => k (.d (.int .i64 z0)) [.undef, .fn 64 [.box [.d (.int .i64 z1.f_From), .d (.int .i64 z1.f_To)]]]) | _ => fun _ => none
def sh_z11z_L2 : SSt := mkSh 19 1 [(0, .sl 101), (1, .fn 64 [.ptr 0 0]), (7, .int .i64), (8, .int .i64)] [(0, .box [.int .i64, .int .i64])]
def LP_z11z_L2 (g : C_z11z) (n : Nat) : LPT A := fun ps => match ps with | [.d (.sl 101 p1), .d (.int .i64 p2), .d (.int .i64 p3), .d (.int .i64 p4), .d (.int .i64 p5)] => fun K => z11z_L2 g n p1 p2 p3 ⟨p4, p5⟩ (fun z0 z1 => K .ret (mkSt 19 1 [(1, .fn 64 [.ptr 0 0]), (4, .d (.int .i64 z0))] [(0, some (.box [.d (.int .i64 z1.f_From), .d (.int .i64 z1.f_To)]))])) (fun z0 => K (.exit 0) (mkSt 19 1 [(1, .fn 64 [.ptr 0 0])] [(0, some (.box [.d (.int .i64 z0.f_From), .d (.int .i64 z0.f_To)]))])) | _ => fun _ => none
noncomputable def code_95 : Code := (Tryz.f95.body).getD .skip
noncomputable def E_z11z (g : C_z11z) : Env A := mkE [(64, SS_band_May_1 g.band_May_1)] [] [(2, ⟨[0, 1, 7, 8], [], [0], [], [], []⟩)] [(2, ⟨[1, 4], [], [0], [], [], []⟩)] [(2, pieceOf sh_z11z_L2 (LP_z11z_L2 g g.N))] [] [] [] [] [1]
theorem ct_z11z [Fuel] : NatTab (E_z11z I_z11z).C := ct_of (P := Tryz.prog) (T := T) (.cons ok_band_May_1 .nil) (by kernel_rfl)
noncomputable def cb_z11z_L2 : Code := sub [1, 0, 1, 0, 0] code_95
theorem s_z11z_L2 (g : C_z11z) (n : Nat) : StepOk (E_z11z g) g.N cb_z11z_L2 sh_z11z_L2 (LP_z11z_L2 g) n := by intro ps; unfold LP_z11z_L2; split; exact .inr fun R K => (by kernel_rfl); exact .inl fun R K => rfl
theorem lf_z11z_L2 [Fuel] : LoopFine (E_z11z I_z11z) NN cb_z11z_L2 := fine_loop sh_z11z_L2 (LP_z11z_L2 I_z11z) (by kernel_rfl) ct_z11z (cuts0 (fun _ => rfl) (by kernel_rfl)) (fun ps R K => by unfold LP_z11z_L2; split <;> (try unfold z11z_L2) <;> rfl) (s_z11z_L2 I_z11z)
theorem sm_z11z (g : C_z11z) : Same (SS_z11z (@z11z_ g)) (abody (E_z11z g) Tryz.f95 code_95 1 [0] [.asis] g.N) := by intro args; unfold SS_z11z; split; exact .inr fun R k => (by kernel_rfl); exact .inl fun R k => rfl
theorem ok_z11z [Fuel] : Ok 95 (SS_z11z (@z11z _)) := okF_of std (.cons ok_band_May_1 .nil) ⟨rfl, rfl, by kernel_rfl, rfl, rfl, rfl⟩ (sm_z11z I_z11z) (cutsL (fun _ => rfl) (.cons lf_z11z_L2 .nil) (by kernel_rfl)) Tryz.func95 (by kernel_rfl) (by kernel_rfl)
abbrev T_z36z : Type 1 := List G_Row → G_Row → {R : Type} → (Bool → G_Row → Option R) → Option R
structure C_z36z where
 N : Nat
 z11z : T_z11z
def z36z_ (g : C_z36z) (a1 : List G_Row) (a2 : G_Row) {R : Type} (k0 : Bool → G_Row → Option R) : Option R :=
 (g.z11z a1 a2 (fun r3 r4 => k0 (decide (r3 ≥ 0)) r4))
noncomputable def I_z36z [Fuel] : C_z36z := ⟨NN, @z11z _⟩
noncomputable def z36z [Fuel] : T_z36z := @z36z_ I_z36z
def SS_z36z (g : T_z36z) : Spec A := fun args => match args with | [.d (.sl 101 a1), .fn 64 [.box [.d (.int .i64 a2), .d (.int .i64 a3)]]] => fun k => g a1 ⟨a2, a3⟩ (fun z0 z1 => k (.d (.bool z0)) [.undef, .fn 64 [.box [.d (.int .i64 z1.f_From), .d (.int .i64 z1.f_To)]]]) | _ => fun _ => none
noncomputable def code_62 : Code := (Tryz.f62.body).getD .skip
noncomputable def E_z36z (g : C_z36z) : Env A := mkE [(95, SS_z11z g.z11z)] [] [] [] [] [] [] [] [(95, 0)] [1]
theorem sm_z36z (g : C_z36z) : Same (SS_z36z (@z36z_ g)) (abody (E_z36z g) Tryz.f62 code_62 1 [0] [.asis] g.N) := by intro args; unfold SS_z36z; split; exact .inr fun R k => (by kernel_rfl); exact .inl fun R k => rfl
theorem ok_z36z [Fuel] : Ok 62 (SS_z36z (@z36z _)) := okF_of std (.cons ok_z11z .nil) ⟨rfl, rfl, by kernel_rfl, rfl, rfl, rfl⟩ (sm_z36z I_z36z) (cuts0 (fun _ => rfl) (by kernel_rfl)) Tryz.func62 (by kernel_rfl) (by kernel_rfl)
abbrev T_band_May : Type 1 := List G_Segment → List UInt8 → Int → Int → Int → Int → {R : Type} → (Bool → Int → Option R) → Option R
structure C_band_May where
 N : Nat
 z45z : T_z45z
 z27z : T_z27z
 kit_IsKey : T_kit_IsKey
 kit_IsMode : T_kit_IsMode
 z62z : T_z62z
 band_used : T_band_used
 z36z : T_z36z
 z37z : T_z37z
def band_May_ (g : C_band_May) (a1 : List G_Segment) (a2 : List UInt8) (a3 a4 a5 a6 : Int) {R : Type} (k0 : Bool → Int → Option R) : Option R :=
 (g.z27z a1 (fun r7 => (bif (r7 != 0) then k0 false r7 else (g.kit_IsKey a2 (fun r8 => (bif (!r8) then k0 false 5 else (g.z45z a3 0 30000000000 (fun r9 => (bif r9 then k0 false 1 else (g.z45z a4 1 100000 (fun r10 => (bif r10 then k0 false 1 else (g.kit_IsMode a5 (fun r11 => (bif (!r11) then k0 false 4 else (g.z62z a6 (fun r12 => (bif (!r12) then k0 false 1 else (g.band_used a3 a4 (fun r13 => (g.z37z a1 a2 a5 a6 (fun r14 => (g.z36z r14 r13 (fun r15 r16 => k0 r15 0))))))))))))))))))))))))
noncomputable def I_band_May [Fuel] : C_band_May := ⟨NN, @z45z _, @z27z _, @kit_IsKey _, @kit_IsMode _, @z62z _, @band_used _, @z36z _, @z37z _⟩
noncomputable def band_May [Fuel] : T_band_May := @band_May_ I_band_May
def SS_band_May (g : T_band_May) : Spec A := fun args => match args with | [.d (.sl 69 a1), .d (.str a2), .d (.int .i64 a3), .d (.int .i64 a4), .d (.int .i64 a5), .d (.int .i64 a6)] => fun k => g a1 a2 a3 a4 a5 a6 (fun z0 z1 => k (.tup [.d (.bool z0), .d (.int .i64 z1)]) [.undef, .undef, .undef, .undef, .undef, .undef]) | _ => fun _ => none
noncomputable def code_36 : Code := (Tryz.f36.body).getD .skip
noncomputable def E_band_May (g : C_band_May) : Env A := mkE [(28, SS_z45z g.z45z), (57, SS_z27z g.z27z), (58, SS_kit_IsKey g.kit_IsKey), (59, SS_kit_IsMode g.kit_IsMode), (60, SS_z62z g.z62z), (61, SS_band_used g.band_used), (62, SS_z36z g.z36z), (63, SS_z37z g.z37z)] [(15, [0]), (47, [1])] [] [] [] [] [] [] [] []
theorem sm_band_May (g : C_band_May) : Same (SS_band_May (@band_May_ g)) (abody (E_band_May g) Tryz.f36 code_36 2 [] [.asis, .asis] g.N) := by intro args; unfold SS_band_May; split; exact .inr fun R k => (by kernel_rfl); exact .inl fun R k => rfl
theorem ok_band_May [Fuel] : Ok 36 (SS_band_May (@band_May _)) := okF_of std (.cons ok_z45z (.cons ok_z27z (.cons ok_kit_IsKey (.cons ok_kit_IsMode (.cons ok_z62z (.cons ok_band_used (.cons ok_z36z (.cons ok_z37z .nil)))))))) ⟨rfl, rfl, by kernel_rfl, rfl, rfl, rfl⟩ (sm_band_May I_band_May) (cuts0 (fun _ => rfl) (by kernel_rfl)) Tryz.func36 (by kernel_rfl) (by kernel_rfl)
abbrev T_z63z : Type 1 := List UInt8 → {R : Type} → (Bool → Option R) → Option R
def z63z_L4 (g : Nat) : Nat → List UInt8 → Int → Int → {R : Type} → (Bool → Option R) → Option R → Option R
 | 0, _, _, _, _, _, _ => none
 | n + 1, v2, v3, v4, _, e0, e1 => (bif (decide (v4 < v3)) then (bif ((w64 (Int.tdiv v4 2)) == 1) then (get_ v2 v4 fun x11 => (bif (decide ((x11.toNat : Int) < 48)) then e0 false else (get_ v2 v4 fun x12 => (bif (decide ((x12.toNat : Int) > 57)) then e0 false else z63z_L4 g n v2 v3 (w64 (v4 + 1)) e0 e1)))) else (bif ((w64 (Int.tdiv v4 2)) == 2) then (get_ v2 v4 fun x13 => (bif (decide ((x13.toNat : Int) < 97)) then e0 false else (get_ v2 v4 fun x14 => (bif (decide ((x14.toNat : Int) > 120)) then e0 false else z63z_L4 g n v2 v3 (w64 (v4 + 1)) e0 e1)))) else (get_ v2 v4 fun x15 => (bif (decide ((x15.toNat : Int) < 97)) then e0 false else (get_ v2 v4 fun x16 => (bif (decide ((x16.toNat : Int) > 114)) then e0 false else z63z_L4 g n v2 v3 (w64 (v4 + 1)) e0 e1)))))) else e1)
def z63z_ (g : Nat) (a1 : List UInt8) {R : Type} (k0 : Bool → Option R) : Option R :=
 (bif ((a1.length : Int) != 2) then (bif ((a1.length : Int) != 4) then (bif ((a1.length : Int) != 6) then k0 false else (z63z_L4 g g a1 (a1.length : Int) 0 (fun e17 => k0 e17) (k0 true))) else (z63z_L4 g g a1 (a1.length : Int) 0 (fun e18 => k0 e18) (k0 true))) else (z63z_L4 g g a1 (a1.length : Int) 0 (fun e19 => k0 e19) (k0 true)))
noncomputable def z63z [Fuel] : T_z63z := @z63z_ NN
def SS_z63z (g : T_z63z) : Spec A := fun args => match args with | [.d (.str a1)] => fun k => g a1 (fun z0 => k (.d (.bool z0)) [.undef]) | _ => fun _ => none
def sh_z63z_L4 : SSt := mkSh 43 0 [(0, .str), (20, .int .i64), (21, .int .i64)] []
def LP_z63z_L4 (g : Nat) (n : Nat) : LPT A := fun ps => match ps with | [.d (.str p1), .d (.int .i64 p2), .d (.int .i64 p3)] => fun K => z63z_L4 g n p1 p2 p3 (fun z0 => K .ret (mkSt 43 0 [(2, .d (.bool z0))] [])) (K (.exit 0) (mkSt 43 0 [] [])) | _ => fun _ => none
noncomputable def code_127 : Code := (Tryz.f127.body).getD .skip
noncomputable def E_z63z (g : Nat) : Env A := mkE [] [] [(4, ⟨[0, 20, 21], [], [], [], [], []⟩)] [(4, ⟨[2], [], [], [], [], []⟩)] [(4, pieceOf sh_z63z_L4 (LP_z63z_L4 g g))] [] [] [] [] []
theorem ct_z63z [Fuel] : NatTab (E_z63z NN).C := ct_of (P := Tryz.prog) (T := T) .nil (by kernel_rfl)
noncomputable def cb_z63z_L4 : Code := sub [1, 1, 0, 1, 0, 0] code_127
theorem s_z63z_L4 (g : Nat) (n : Nat) : StepOk (E_z63z g) g cb_z63z_L4 sh_z63z_L4 (LP_z63z_L4 g) n := by intro ps; unfold LP_z63z_L4; split; exact .inr fun R K => (by kernel_rfl); exact .inl fun R K => rfl
theorem lf_z63z_L4 [Fuel] : LoopFine (E_z63z NN) NN cb_z63z_L4 := fine_loop sh_z63z_L4 (LP_z63z_L4 NN) (by kernel_rfl) ct_z63z (cuts0 (fun _ => rfl) (by kernel_rfl)) (fun ps R K => by unfold LP_z63z_L4; split <;> (try unfold z63z_L4) <;> rfl) (s_z63z_L4 NN)
theorem sm_z63z (g : Nat) : Same (SS_z63z (@z63z_ g)) (abody (E_z63z g) Tryz.f127 code_127 0 [] [.asis] g) := by intro args; unfold SS_z63z; split; exact .inr fun R k => (by kernel_rfl); exact .inl fun R k => rfl
theorem ok_z63z [Fuel] : Ok 127 (SS_z63z (@z63z _)) := okF_of std .nil ⟨rfl, rfl, by kernel_rfl, rfl, rfl, rfl⟩ (sm_z63z NN) (cutsL (fun _ => rfl) (.cons lf_z63z_L4 .nil) (by kernel_rfl)) Tryz.func127 (by kernel_rfl) (by kernel_rfl)
abbrev T_z83z : Type 1 := List UInt8 → {R : Type} → (Bool → Option R) → Option R
structure C_z83z where
 N : Nat
 z63z : T_z63z
def z83z_ (g : C_z83z) (a1 : List UInt8) {R : Type} (k0 : Bool → Option R) : Option R :=
 (bif ((a1.length : Int) == 6) then (g.z63z a1 (fun r2 => k0 r2)) else k0 false)
noncomputable def I_z83z [Fuel] : C_z83z := ⟨NN, @z63z _⟩
noncomputable def z83z [Fuel] : T_z83z := @z83z_ I_z83z
def SS_z83z (g : T_z83z) : Spec A := fun args => match args with | [.d (.str a1)] => fun k => g a1 (fun z0 => k (.d (.bool z0)) [.undef]) | _ => fun _ => none
noncomputable def code_99 : Code := (Tryz.f99.body).getD .skip
noncomputable def E_z83z (g : C_z83z) : Env A := mkE [(127, SS_z63z g.z63z)] [] [] [] [] [] [] [] [] []
theorem sm_z83z (g : C_z83z) : Same (SS_z83z (@z83z_ g)) (abody (E_z83z g) Tryz.f99 code_99 0 [] [.asis] g.N) := by intro args; unfold SS_z83z; split; exact .inr fun R k => (by kernel_rfl); exact .inl fun R k => rfl
theorem ok_z83z [Fuel] : Ok 99 (SS_z83z (@z83z _)) := okF_of std (.cons ok_z63z .nil) ⟨rfl, rfl, by kernel_rfl, rfl, rfl, rfl⟩ (sm_z83z I_z83z) (cuts0 (fun _ => rfl) (by kernel_rfl)) Tryz.func99 (by kernel_rfl) (by kernel_rfl)
abbrev T_z34z : Type 1 := List G_Entrant → {R : Type} → (Int → Option R) → Option R
structure C_z34z where
 N : Nat
 z45z : T_z45z
 z29z : T_z29z
 strings_Compare : T_strings_Compare
 kit_IsKey : T_kit_IsKey
 call_Is : T_call_Is
 z83z : T_z83z
def z34z_L4 (g : C_z34z) : Nat → List G_Entrant → List G_Entrant → Int → Int → {R : Type} → (Int → Option R) → Option R → Option R
 | 0, _, _, _, _, _, _, _ => none
 | n + 1, v2, v3, v4, v5, _, e0, e1 => (bif (decide (v5 < v4)) then (get_ v3 v5 fun x21 => (g.call_Is x21.f_Call (fun r22 => (bif (!r22) then e0 3 else (g.kit_IsKey x21.f_Category (fun r23 => (bif (!r23) then e0 5 else (g.z45z x21.f_Points 0 1000000000000 (fun r24 => (bif r24 then e0 1 else (bif (!(x21.f_Locator == [])) then (g.z83z x21.f_Locator (fun r25 => (bif (!r25) then e0 3 else (bif (decide (v5 > 0)) then (get_ v2 (w64 (v5 - 1)) fun x26 => (get_ v2 (w64 (v5 - 1)) fun x27 => (g.strings_Compare x26.f_Category x21.f_Category (fun r28 => (g.strings_Compare x27.f_Call x21.f_Call (fun r29 => (g.z29z [r28, r29] (fun r30 => (bif (decide (r30 ≥ 0)) then e0 7 else z34z_L4 g n v2 v3 v4 (w64 (v5 + 1)) e0 e1))))))))) else z34z_L4 g n v2 v3 v4 (w64 (v5 + 1)) e0 e1)))) else (bif (decide (v5 > 0)) then (get_ v2 (w64 (v5 - 1)) fun x31 => (get_ v2 (w64 (v5 - 1)) fun x32 => (g.strings_Compare x31.f_Category x21.f_Category (fun r33 => (g.strings_Compare x32.f_Call x21.f_Call (fun r34 => (g.z29z [r33, r34] (fun r35 => (bif (decide (r35 ≥ 0)) then e0 7 else z34z_L4 g n v2 v3 v4 (w64 (v5 + 1)) e0 e1))))))))) else z34z_L4 g n v2 v3 v4 (w64 (v5 + 1)) e0 e1)))))))))))) else e1)
def z34z_ (g : C_z34z) (a1 : List G_Entrant) {R : Type} (k0 : Int → Option R) : Option R :=
 (bif (decide ((a1.length : Int) > 500)) then k0 2 else (z34z_L4 g g.N a1 a1 (a1.length : Int) 0 (fun e36 => k0 e36) (k0 0)))
noncomputable def I_z34z [Fuel] : C_z34z := ⟨NN, @z45z _, @z29z _, @strings_Compare _, @kit_IsKey _, @call_Is _, @z83z _⟩
noncomputable def z34z [Fuel] : T_z34z := @z34z_ I_z34z
def SS_z34z (g : T_z34z) : Spec A := fun args => match args with | [.d (.sl 75 a1)] => fun k => g a1 (fun z0 => k (.d (.int .i64 z0)) [.undef]) | _ => fun _ => none
def sh_z34z_L4 : SSt := mkSh 66 2 [(0, .sl 75), (8, .sl 75), (9, .int .i64), (10, .int .i64)] []
def LP_z34z_L4 (g : C_z34z) (n : Nat) : LPT A := fun ps => match ps with | [.d (.sl 75 p1), .d (.sl 75 p2), .d (.int .i64 p3), .d (.int .i64 p4)] => fun K => z34z_L4 g n p1 p2 p3 p4 (fun z0 => K .ret (mkSt 66 2 [(2, .d (.int .i64 z0))] [])) (K (.exit 0) (mkSt 66 2 [] [])) | _ => fun _ => none
noncomputable def code_65 : Code := (Tryz.f65.body).getD .skip
noncomputable def E_z34z (g : C_z34z) : Env A := mkE [(28, SS_z45z g.z45z), (49, SS_z29z g.z29z), (51, SS_strings_Compare g.strings_Compare), (58, SS_kit_IsKey g.kit_IsKey), (78, SS_call_Is g.call_Is), (99, SS_z83z g.z83z)] [(4, [0]), (61, [1])] [(4, ⟨[0, 8, 9, 10], [], [], [], [], []⟩)] [(4, ⟨[2], [], [], [], [], []⟩)] [(4, pieceOf sh_z34z_L4 (LP_z34z_L4 g g.N))] [] [] [] [] []
theorem ct_z34z [Fuel] : NatTab (E_z34z I_z34z).C := ct_of (P := Tryz.prog) (T := T) (.cons ok_z45z (.cons ok_z29z (.cons ok_strings_Compare (.cons ok_kit_IsKey (.cons ok_call_Is (.cons ok_z83z .nil)))))) (by kernel_rfl)
noncomputable def cb_z34z_L4 : Code := sub [1, 1, 0, 1, 0, 0] code_65
theorem s_z34z_L4 (g : C_z34z) (n : Nat) : StepOk (E_z34z g) g.N cb_z34z_L4 sh_z34z_L4 (LP_z34z_L4 g) n := by intro ps; unfold LP_z34z_L4; split; exact .inr fun R K => (by kernel_rfl); exact .inl fun R K => rfl
theorem lf_z34z_L4 [Fuel] : LoopFine (E_z34z I_z34z) NN cb_z34z_L4 := fine_loop sh_z34z_L4 (LP_z34z_L4 I_z34z) (by kernel_rfl) ct_z34z (cuts0 (fun _ => rfl) (by kernel_rfl)) (fun ps R K => by unfold LP_z34z_L4; split <;> (try unfold z34z_L4) <;> rfl) (s_z34z_L4 I_z34z)
theorem sm_z34z (g : C_z34z) : Same (SS_z34z (@z34z_ g)) (abody (E_z34z g) Tryz.f65 code_65 2 [] [.asis] g.N) := by intro args; unfold SS_z34z; split; exact .inr fun R k => (by kernel_rfl); exact .inl fun R k => rfl
theorem ok_z34z [Fuel] : Ok 65 (SS_z34z (@z34z _)) := okF_of std (.cons ok_z45z (.cons ok_z29z (.cons ok_strings_Compare (.cons ok_kit_IsKey (.cons ok_call_Is (.cons ok_z83z .nil)))))) ⟨rfl, rfl, by kernel_rfl, rfl, rfl, rfl⟩ (sm_z34z I_z34z) (cutsL (fun _ => rfl) (.cons lf_z34z_L4 .nil) (by kernel_rfl)) Tryz.func65 (by kernel_rfl) (by kernel_rfl)
abbrev T_z47z : Type 1 := G_Place → G_Place → {R : Type} → (Int → Option R) → Option R
structure C_z47z where
 N : Nat
 z29z : T_z29z
 z33z : T_z33z
 strings_Compare : T_strings_Compare
def z47z_ (g : C_z47z) (a1 a2 : G_Place) {R : Type} (k0 : Int → Option R) : Option R :=
 (g.z33z a2.f_Points a1.f_Points (fun r3 => (g.strings_Compare a1.f_Key a2.f_Key (fun r4 => (g.z29z [r3, r4] (fun r5 => k0 r5))))))
noncomputable def I_z47z [Fuel] : C_z47z := ⟨NN, @z29z _, @z33z _, @strings_Compare _⟩
noncomputable def z47z [Fuel] : T_z47z := @z47z_ I_z47z
def SS_z47z (g : T_z47z) : Spec A := fun args => match args with | [.agg [.d (.int .i64 a1), .d (.int .i64 a2), .d (.str a3)], .agg [.d (.int .i64 a4), .d (.int .i64 a5), .d (.str a6)]] => fun k => g ⟨a1, a2, a3⟩ ⟨a4, a5, a6⟩ (fun z0 => k (.d (.int .i64 z0)) [.undef, .undef]) | _ => fun _ => none
noncomputable def code_101 : Code := (Tryz.f101.body).getD .skip
noncomputable def E_z47z (g : C_z47z) : Env A := mkE [(49, SS_z29z g.z29z), (50, SS_z33z g.z33z), (51, SS_strings_Compare g.strings_Compare)] [(2, [0]), (3, [1]), (15, [2])] [] [] [] [] [] [] [] []
theorem sm_z47z (g : C_z47z) : Same (SS_z47z (@z47z_ g)) (abody (E_z47z g) Tryz.f101 code_101 3 [] [.asis] g.N) := by intro args; unfold SS_z47z; split; exact .inr fun R k => (by kernel_rfl); exact .inl fun R k => rfl
theorem ok_z47z [Fuel] : Ok 101 (SS_z47z (@z47z _)) := okF_of std (.cons ok_z29z (.cons ok_z33z (.cons ok_strings_Compare .nil))) ⟨rfl, rfl, by kernel_rfl, rfl, rfl, rfl⟩ (sm_z47z I_z47z) (cuts0 (fun _ => rfl) (by kernel_rfl)) Tryz.func101 (by kernel_rfl) (by kernel_rfl)
noncomputable def Ed_z47z (g : C_z47z) : Env A := mkED [(49, SS_z29z g.z29z), (50, SS_z33z g.z33z), (51, SS_strings_Compare g.strings_Compare)] [(2, [0]), (3, [1]), (15, [2])] [] [] [] [] [] [] [] []
theorem smd_z47z (g : C_z47z) : Same (SS_z47z (@z47z_ g)) (abody (Ed_z47z g) Tryz.f101 code_101 3 [] [.asis] g.N) := by intro args; unfold SS_z47z; split; exact .inr fun R k => (by kernel_rfl); exact .inl fun R k => rfl
theorem okd_z47z [Fuel] : OkD 101 (SS_z47z (@z47z _)) := okF_of stdD (.cons okd_z29z (.cons okd_z33z (.cons okd_strings_Compare .nil))) ⟨rfl, rfl, by kernel_rfl, rfl, rfl, rfl⟩ (smd_z47z I_z47z) (cuts0 (fun _ => rfl) (by kernel_rfl)) Tryz.func101 (by kernel_rfl) (by kernel_rfl)
abbrev T_z41z : Type 1 := List G_Place → {R : Type} → (List G_Place → Option R) → Option R
noncomputable def z41z [Fuel] : T_z41z := @X_sortf G_Place (@z47z _)
def SS_z41z (g : T_z41z) : Spec A := fun args => match args with | [.arr 109 a1, .fn 101 []] => fun k => g a1 (fun z => k (.tup []) [.arr 109 z, .fn 101 []]) | _ => fun _ => none
theorem h1_z41z [Fuel] (xs : List (A 109)) (R : Type) (k : IV A → List (IV A) → Option R) : SS_z41z (@z41z _) [.arr 109 xs, .fn 101 []] k = X_sortf (α := A 109) (@z47z _) xs (fun z => k (.tup []) [.arr 109 z, .fn 101 []]) := by kernel_rfl
theorem h2_z41z [Fuel] (args : List (IV A)) (R : Type) (k : IV A → List (IV A) → Option R) (h : ∀ xs : List (A 109), args ≠ [.arr 109 xs, .fn 101 []]) : SS_z41z (@z41z _) args k = none := by unfold SS_z41z; split; exact absurd rfl (h _); rfl
theorem hc_z41z [Fuel] (x y : A 109) (R : Type) (k : Int → Option R) : callOf T (SS_z47z (@z47z _)) 109 x y k = @z47z _ x y R k := by kernel_rfl
theorem hs_z41z (x : G_Place) : (enc_e109 x).all scal = true := rfl
theorem ok_z41z [Fuel] : Ok 100 (SS_z41z (@z41z _)) := ⟨sortf_sound (tyOk Tryz.prog) (e := 109) Tryz.sortf100 Tryz.isAgg109 Tryz.sizeOf109 (fun x d hd => List.all_eq_true.1 (hs_z41z x) d hd) hc_z41z okd_z47z.fs okd_z47z.en h1_z41z h2_z41z, sortf_na (e := 109) h1_z41z h2_z41z, enters_of (fn := Tryz.f100) Tryz.func100 (by kernel_rfl) (by kernel_rfl)⟩
abbrev T_z21z : Type 1 := List G_Place → {R : Type} → (List G_Place → Option R) → Option R
structure C_z21z where
 N : Nat
 z41z : T_z41z
def z21z_L3 (g : C_z21z) : Nat → Int → Int → List G_Place → {R : Type} → (List G_Place → Option R) → Option R
 | 0, _, _, _, _, _ => none
 | n + 1, v3, v4, v5, _, e0 => (bif (decide (v4 < v3)) then (inr v5 v4 (at_ v5 v4 fun x11 => (bif (decide (v4 > 0)) then (inr (set_ v5 v4 (⟨(w64 (v4 + 1)), x11.f_Points, x11.f_Key⟩ : G_Place)) v4 (at_ (set_ v5 v4 (⟨(w64 (v4 + 1)), x11.f_Points, x11.f_Key⟩ : G_Place)) v4 fun x12 => (inr (set_ v5 v4 (⟨(w64 (v4 + 1)), x11.f_Points, x11.f_Key⟩ : G_Place)) (w64 (v4 - 1)) (at_ (set_ v5 v4 (⟨(w64 (v4 + 1)), x11.f_Points, x11.f_Key⟩ : G_Place)) (w64 (v4 - 1)) fun x13 => (bif (x12.f_Points == x13.f_Points) then (inr (set_ v5 v4 (⟨(w64 (v4 + 1)), x11.f_Points, x11.f_Key⟩ : G_Place)) (w64 (v4 - 1)) (at_ (set_ v5 v4 (⟨(w64 (v4 + 1)), x11.f_Points, x11.f_Key⟩ : G_Place)) (w64 (v4 - 1)) fun x14 => (inr (set_ v5 v4 (⟨(w64 (v4 + 1)), x11.f_Points, x11.f_Key⟩ : G_Place)) v4 (at_ (set_ v5 v4 (⟨(w64 (v4 + 1)), x11.f_Points, x11.f_Key⟩ : G_Place)) v4 fun x15 => z21z_L3 g n v3 (w64 (v4 + 1)) (set_ (set_ v5 v4 (⟨(w64 (v4 + 1)), x11.f_Points, x11.f_Key⟩ : G_Place)) v4 (⟨x14.f_Rank, x15.f_Points, x15.f_Key⟩ : G_Place)) e0)))) else z21z_L3 g n v3 (w64 (v4 + 1)) (set_ v5 v4 (⟨(w64 (v4 + 1)), x11.f_Points, x11.f_Key⟩ : G_Place)) e0))))) else z21z_L3 g n v3 (w64 (v4 + 1)) (set_ v5 v4 (⟨(w64 (v4 + 1)), x11.f_Points, x11.f_Key⟩ : G_Place)) e0))) else e0 v5)
def z21z_ (g : C_z21z) (a1 : List G_Place) {R : Type} (k0 : List G_Place → Option R) : Option R :=
 (g.z41z a1 (fun r2 => (z21z_L3 g g.N (r2.length : Int) 0 r2 (fun e16 => k0 e16))))
noncomputable def I_z21z [Fuel] : C_z21z := ⟨NN, @z41z _⟩
noncomputable def z21z [Fuel] : T_z21z := @z21z_ I_z21z
def SS_z21z (g : T_z21z) : Spec A := fun args => match args with | [.arr 109 a1] => fun k => g a1 (fun z0 => k (.arr 109 z0) [.undef]) | _ => fun _ => none
def sh_z21z_L3 : SSt := mkSh 45 1 [(0, .own 109 0), (7, .int .i64), (8, .int .i64)] [(0, .row 109)]
def LP_z21z_L3 (g : C_z21z) (n : Nat) : LPT A := fun ps => match ps with | [.d (.int .i64 p1), .d (.int .i64 p2), .d (.sl 109 p3)] => fun K => z21z_L3 g n p1 p2 p3 (fun z0 => K (.exit 0) (mkSt 45 1 [(0, .own 109 0)] [(0, some (.row 109 z0))])) | _ => fun _ => none
noncomputable def code_66 : Code := (Tryz.f66.body).getD .skip
noncomputable def E_z21z (g : C_z21z) : Env A := mkE [(100, SS_z41z g.z41z)] [] [(3, ⟨[0, 7, 8], [], [0], [], [], []⟩)] [(3, ⟨[0], [], [0], [], [], []⟩)] [(3, pieceOf sh_z21z_L3 (LP_z21z_L3 g g.N))] [] [] [] [(100, 0)] []
theorem ct_z21z [Fuel] : NatTab (E_z21z I_z21z).C := ct_of (P := Tryz.prog) (T := T) (.cons ok_z41z .nil) (by kernel_rfl)
noncomputable def cb_z21z_L3 : Code := sub [1, 1, 0, 1, 0, 0] code_66
theorem s_z21z_L3 (g : C_z21z) (n : Nat) : StepOk (E_z21z g) g.N cb_z21z_L3 sh_z21z_L3 (LP_z21z_L3 g) n := by intro ps; unfold LP_z21z_L3; split; exact .inr fun R K => (by kernel_rfl); exact .inl fun R K => rfl
theorem lf_z21z_L3 [Fuel] : LoopFine (E_z21z I_z21z) NN cb_z21z_L3 := fine_loop sh_z21z_L3 (LP_z21z_L3 I_z21z) (by kernel_rfl) ct_z21z (cuts0 (fun _ => rfl) (by kernel_rfl)) (fun ps R K => by unfold LP_z21z_L3; split <;> (try unfold z21z_L3) <;> rfl) (s_z21z_L3 I_z21z)
theorem sm_z21z (g : C_z21z) : Same (SS_z21z (@z21z_ g)) (abody (E_z21z g) Tryz.f66 code_66 1 [0] [.arr 109] g.N) := by intro args; unfold SS_z21z; split; exact .inr fun R k => (by kernel_rfl); exact .inl fun R k => rfl
theorem ok_z21z [Fuel] : Ok 66 (SS_z21z (@z21z _)) := okF_of std (.cons ok_z41z .nil) ⟨rfl, rfl, by kernel_rfl, rfl, rfl, rfl⟩ (sm_z21z I_z21z) (cutsL (fun _ => rfl) (.cons lf_z21z_L3 .nil) (by kernel_rfl)) Tryz.func66 (by kernel_rfl) (by kernel_rfl)
abbrev T_club_Table : Type 1 := List G_Entrant → List UInt8 → {R : Type} → (List G_Place → Int → Option R) → Option R
structure C_club_Table where
 N : Nat
 kit_IsKey : T_kit_IsKey
 z34z : T_z34z
 z21z : T_z21z
def club_Table_L8 (g : C_club_Table) : Nat → List UInt8 → List G_Entrant → Int → Int → List G_Place → {R : Type} → (List G_Place → Option R) → Option R
 | 0, _, _, _, _, _, _, _ => none
 | n + 1, v5, v6, v7, v8, v9, _, e0 => (bif (decide (v8 < v7)) then (get_ v6 v8 fun x11 => (bif (x11.f_Category == v5) then (bif (decide ((v9.length + [(⟨0, x11.f_Points, x11.f_Call⟩ : G_Place)].length) * 32 ≤ roomBytes')) then club_Table_L8 g n v5 v6 v7 (w64 (v8 + 1)) (v9 ++ [(⟨0, x11.f_Points, x11.f_Call⟩ : G_Place)]) e0 else none) else club_Table_L8 g n v5 v6 v7 (w64 (v8 + 1)) v9 e0)) else e0 v9)
def club_Table_ (g : C_club_Table) (a1 : List G_Entrant) (a2 : List UInt8) {R : Type} (k0 : List G_Place → Int → Option R) : Option R :=
 (g.z34z a1 (fun r3 => (bif (r3 != 0) then k0 [] r3 else (g.kit_IsKey a2 (fun r4 => (bif (!r4) then k0 [] 5 else (club_Table_L8 g g.N a2 a1 (a1.length : Int) 0 [] (fun e12 => (g.z21z e12 (fun r13 => k0 r13 0))))))))))
noncomputable def I_club_Table [Fuel] : C_club_Table := ⟨NN, @kit_IsKey _, @z34z _, @z21z _⟩
noncomputable def club_Table [Fuel] : T_club_Table := @club_Table_ I_club_Table
def SS_club_Table (g : T_club_Table) : Spec A := fun args => match args with | [.d (.sl 75 a1), .d (.str a2)] => fun k => g a1 a2 (fun z0 z1 => k (.tup [.arr 109 z0, .d (.int .i64 z1)]) [.undef, .undef]) | _ => fun _ => none
def sh_club_Table_L8 : SSt := mkSh 39 5 [(1, .str), (7, .own 109 0), (18, .sl 75), (19, .int .i64), (20, .int .i64)] [(0, .row 109)]
def LP_club_Table_L8 (g : C_club_Table) (n : Nat) : LPT A := fun ps => match ps with | [.d (.str p1), .d (.sl 75 p2), .d (.int .i64 p3), .d (.int .i64 p4), .d (.sl 109 p5)] => fun K => club_Table_L8 g n p1 p2 p3 p4 p5 (fun z0 => K (.exit 0) (mkSt 39 5 [(7, .own 109 0)] [(0, some (.row 109 z0))])) | _ => fun _ => none
noncomputable def code_37 : Code := (Tryz.f37.body).getD .skip
noncomputable def E_club_Table (g : C_club_Table) : Env A := mkE [(58, SS_kit_IsKey g.kit_IsKey), (65, SS_z34z g.z34z), (66, SS_z21z g.z21z)] [(9, [1]), (34, [2]), (35, [3]), (38, [4])] [(8, ⟨[1, 7, 18, 19, 20], [(7, 109, 0)], [], [], [], []⟩)] [(8, ⟨[7], [], [0], [], [], []⟩)] [(8, pieceOf sh_club_Table_L8 (LP_club_Table_L8 g g.N))] [] [] [] [(66, 0)] []
theorem ct_club_Table [Fuel] : NatTab (E_club_Table I_club_Table).C := ct_of (P := Tryz.prog) (T := T) (.cons ok_kit_IsKey (.cons ok_z34z (.cons ok_z21z .nil))) (by kernel_rfl)
noncomputable def cb_club_Table_L8 : Code := sub [1, 1, 1, 1, 0, 1, 0, 0] code_37
theorem s_club_Table_L8 (g : C_club_Table) (n : Nat) : StepOk (E_club_Table g) g.N cb_club_Table_L8 sh_club_Table_L8 (LP_club_Table_L8 g) n := by intro ps; unfold LP_club_Table_L8; split; exact .inr fun R K => (by kernel_rfl); exact .inl fun R K => rfl
theorem lf_club_Table_L8 [Fuel] : LoopFine (E_club_Table I_club_Table) NN cb_club_Table_L8 := fine_loop sh_club_Table_L8 (LP_club_Table_L8 I_club_Table) (by kernel_rfl) ct_club_Table (cuts0 (fun _ => rfl) (by kernel_rfl)) (fun ps R K => by unfold LP_club_Table_L8; split <;> (try unfold club_Table_L8) <;> rfl) (s_club_Table_L8 I_club_Table)
theorem sm_club_Table (g : C_club_Table) : Same (SS_club_Table (@club_Table_ g)) (abody (E_club_Table g) Tryz.f37 code_37 5 [] [.arr 109, .asis] g.N) := by intro args; unfold SS_club_Table; split; exact .inr fun R k => (by kernel_rfl); exact .inl fun R k => rfl
theorem ok_club_Table [Fuel] : Ok 37 (SS_club_Table (@club_Table _)) := okF_of std (.cons ok_kit_IsKey (.cons ok_z34z (.cons ok_z21z .nil))) ⟨rfl, rfl, by kernel_rfl, rfl, rfl, rfl⟩ (sm_club_Table I_club_Table) (cutsL (fun _ => rfl) (.cons lf_club_Table_L8 .nil) (by kernel_rfl)) Tryz.func37 (by kernel_rfl) (by kernel_rfl)
abbrev T_z87z : Type 1 := G_Deed → {R : Type} → (Int → Option R) → Option R
structure C_z87z where
 N : Nat
 z56z : T_z56z
def z87z_ (g : C_z87z) (a1 : G_Deed) {R : Type} (k0 : Int → Option R) : Option R :=
 (g.z56z a1.f_Contact (fun r2 => (bif (r2 != 0) then k0 r2 else (bif (decide (a1.f_Contact.f_At > a1.f_At)) then k0 1 else k0 0))))
noncomputable def I_z87z [Fuel] : C_z87z := ⟨NN, @z56z _⟩
noncomputable def z87z [Fuel] : T_z87z := @z87z_ I_z87z
def SS_z87z (g : T_z87z) : Spec A := fun args => match args with | [.agg [.d (.str a1), .d (.int .i64 a2), .d (.int .i64 a3), .d (.int .i64 a4), .d (.int .i64 a5), .d (.int .i64 a6), .d (.str a7), .d (.str a8), .d (.int .i64 a9), .d (.int .i64 a10), .d (.str a11), .d (.str a12), .d (.str a13), .d (.str a14), .d (.int .i64 a15)]] => fun k => g ⟨a1, a2, a3, a4, ⟨a5, a6, a7, a8, a9, a10, a11, a12⟩, a13, a14, a15⟩ (fun z0 => k (.d (.int .i64 z0)) [.undef]) | _ => fun _ => none
noncomputable def code_197 : Code := (Tryz.f197.body).getD .skip
noncomputable def E_z87z (g : C_z87z) : Env A := mkE [(52, SS_z56z g.z56z)] [(1, [0])] [] [] [] [] [] [] [] []
theorem sm_z87z (g : C_z87z) : Same (SS_z87z (@z87z_ g)) (abody (E_z87z g) Tryz.f197 code_197 1 [] [.asis] g.N) := by intro args; unfold SS_z87z; split; exact .inr fun R k => (by kernel_rfl); exact .inl fun R k => rfl
theorem ok_z87z [Fuel] : Ok 197 (SS_z87z (@z87z _)) := okF_of std (.cons ok_z56z .nil) ⟨rfl, rfl, by kernel_rfl, rfl, rfl, rfl⟩ (sm_z87z I_z87z) (cuts0 (fun _ => rfl) (by kernel_rfl)) Tryz.func197 (by kernel_rfl) (by kernel_rfl)
abbrev T_z85z : Type 1 := G_Deed → {R : Type} → (Int → Option R) → Option R
structure C_z85z where
 N : Nat
 z45z : T_z45z
 kit_IsKey : T_kit_IsKey
 z87z : T_z87z
def z85z_ (g : C_z85z) (a1 : G_Deed) {R : Type} (k0 : Int → Option R) : Option R :=
 (bif (a1.f_Kind == 1) then (g.z87z a1 (fun r2 => k0 r2)) else (bif (a1.f_Kind == 2) then (g.kit_IsKey a1.f_Band (fun r3 => (bif (!r3) then k0 5 else k0 0))) else (bif (a1.f_Kind == 5) then (g.kit_IsKey a1.f_Of (fun r4 => (bif (!r4) then k0 5 else (g.z45z a1.f_Other 1 1000000 (fun r5 => (bif r5 then k0 1 else k0 0)))))) else (g.z45z a1.f_Contact.f_Sent 1 99999 (fun r6 => (bif r6 then k0 1 else k0 0))))))
noncomputable def I_z85z [Fuel] : C_z85z := ⟨NN, @z45z _, @kit_IsKey _, @z87z _⟩
noncomputable def z85z [Fuel] : T_z85z := @z85z_ I_z85z
def SS_z85z (g : T_z85z) : Spec A := fun args => match args with | [.agg [.d (.str a1), .d (.int .i64 a2), .d (.int .i64 a3), .d (.int .i64 a4), .d (.int .i64 a5), .d (.int .i64 a6), .d (.str a7), .d (.str a8), .d (.int .i64 a9), .d (.int .i64 a10), .d (.str a11), .d (.str a12), .d (.str a13), .d (.str a14), .d (.int .i64 a15)]] => fun k => g ⟨a1, a2, a3, a4, ⟨a5, a6, a7, a8, a9, a10, a11, a12⟩, a13, a14, a15⟩ (fun z0 => k (.d (.int .i64 z0)) [.undef]) | _ => fun _ => none
noncomputable def code_183 : Code := (Tryz.f183.body).getD .skip
noncomputable def E_z85z (g : C_z85z) : Env A := mkE [(28, SS_z45z g.z45z), (58, SS_kit_IsKey g.kit_IsKey), (197, SS_z87z g.z87z)] [(1, [0])] [] [] [] [] [] [] [] []
theorem sm_z85z (g : C_z85z) : Same (SS_z85z (@z85z_ g)) (abody (E_z85z g) Tryz.f183 code_183 1 [] [.asis] g.N) := by intro args; unfold SS_z85z; split; exact .inr fun R k => (by kernel_rfl); exact .inl fun R k => rfl
theorem ok_z85z [Fuel] : Ok 183 (SS_z85z (@z85z _)) := okF_of std (.cons ok_z45z (.cons ok_kit_IsKey (.cons ok_z87z .nil))) ⟨rfl, rfl, by kernel_rfl, rfl, rfl, rfl⟩ (sm_z85z I_z85z) (cuts0 (fun _ => rfl) (by kernel_rfl)) Tryz.func183 (by kernel_rfl) (by kernel_rfl)
abbrev T_net_idle : Type 1 := G_Deed → {R : Type} → (Bool → Option R) → Option R
def net_idle_ (g : Nat) (a1 : G_Deed) {R : Type} (k0 : Bool → Option R) : Option R :=
 (bif (a1.f_Kind == 3) then (bif (a1.f_Kind == 1) then (bif (a1.f_Kind == 2) then (bif (a1.f_Kind == 5) then k0 true else (bif (a1.f_Of == []) then k0 (a1.f_Other == 0) else k0 false)) else (bif (a1.f_Band == []) then (bif (a1.f_Kind == 5) then k0 true else (bif (a1.f_Of == []) then k0 (a1.f_Other == 0) else k0 false)) else k0 false)) else (bif (eq_G_Contact a1.f_Contact (⟨0, 0, [], [], a1.f_Contact.f_Sent, 0, [], []⟩ : G_Contact)) then (bif (a1.f_Kind == 2) then (bif (a1.f_Kind == 5) then k0 true else (bif (a1.f_Of == []) then k0 (a1.f_Other == 0) else k0 false)) else (bif (a1.f_Band == []) then (bif (a1.f_Kind == 5) then k0 true else (bif (a1.f_Of == []) then k0 (a1.f_Other == 0) else k0 false)) else k0 false)) else k0 false)) else (bif (a1.f_Kind == 4) then (bif (a1.f_Kind == 1) then (bif (a1.f_Kind == 2) then (bif (a1.f_Kind == 5) then k0 true else (bif (a1.f_Of == []) then k0 (a1.f_Other == 0) else k0 false)) else (bif (a1.f_Band == []) then (bif (a1.f_Kind == 5) then k0 true else (bif (a1.f_Of == []) then k0 (a1.f_Other == 0) else k0 false)) else k0 false)) else (bif (eq_G_Contact a1.f_Contact (⟨0, 0, [], [], a1.f_Contact.f_Sent, 0, [], []⟩ : G_Contact)) then (bif (a1.f_Kind == 2) then (bif (a1.f_Kind == 5) then k0 true else (bif (a1.f_Of == []) then k0 (a1.f_Other == 0) else k0 false)) else (bif (a1.f_Band == []) then (bif (a1.f_Kind == 5) then k0 true else (bif (a1.f_Of == []) then k0 (a1.f_Other == 0) else k0 false)) else k0 false)) else k0 false)) else (bif (a1.f_Kind == 1) then (bif (a1.f_Kind == 2) then (bif (a1.f_Kind == 5) then k0 true else (bif (a1.f_Of == []) then k0 (a1.f_Other == 0) else k0 false)) else (bif (a1.f_Band == []) then (bif (a1.f_Kind == 5) then k0 true else (bif (a1.f_Of == []) then k0 (a1.f_Other == 0) else k0 false)) else k0 false)) else (bif (eq_G_Contact a1.f_Contact (⟨0, 0, [], [], 0, 0, [], []⟩ : G_Contact)) then (bif (a1.f_Kind == 2) then (bif (a1.f_Kind == 5) then k0 true else (bif (a1.f_Of == []) then k0 (a1.f_Other == 0) else k0 false)) else (bif (a1.f_Band == []) then (bif (a1.f_Kind == 5) then k0 true else (bif (a1.f_Of == []) then k0 (a1.f_Other == 0) else k0 false)) else k0 false)) else k0 false))))
noncomputable def net_idle [Fuel] : T_net_idle := @net_idle_ NN
def SS_net_idle (g : T_net_idle) : Spec A := fun args => match args with | [.agg [.d (.str a1), .d (.int .i64 a2), .d (.int .i64 a3), .d (.int .i64 a4), .d (.int .i64 a5), .d (.int .i64 a6), .d (.str a7), .d (.str a8), .d (.int .i64 a9), .d (.int .i64 a10), .d (.str a11), .d (.str a12), .d (.str a13), .d (.str a14), .d (.int .i64 a15)]] => fun k => g ⟨a1, a2, a3, a4, ⟨a5, a6, a7, a8, a9, a10, a11, a12⟩, a13, a14, a15⟩ (fun z0 => k (.d (.bool z0)) [.undef]) | _ => fun _ => none
noncomputable def code_184 : Code := (Tryz.f184.body).getD .skip
noncomputable def E_net_idle (g : Nat) : Env A := mkE [] [(1, [0]), (5, [1])] [] [] [] [] [] [] [] []
theorem sm_net_idle (g : Nat) : Same (SS_net_idle (@net_idle_ g)) (abody (E_net_idle g) Tryz.f184 code_184 2 [] [.asis] g) := by intro args; unfold SS_net_idle; split; exact .inr fun R k => (by kernel_rfl); exact .inl fun R k => rfl
theorem ok_net_idle [Fuel] : Ok 184 (SS_net_idle (@net_idle _)) := okF_of std .nil ⟨rfl, rfl, by kernel_rfl, rfl, rfl, rfl⟩ (sm_net_idle NN) (cuts0 (fun _ => rfl) (by kernel_rfl)) Tryz.func184 (by kernel_rfl) (by kernel_rfl)
end Go.Am
