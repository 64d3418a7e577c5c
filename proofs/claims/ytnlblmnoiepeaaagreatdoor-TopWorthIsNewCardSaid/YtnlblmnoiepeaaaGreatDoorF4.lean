/- The functions of the program as Lean functions, each shown to be what the code computes, part 4. No condition: lemmas for the claim. -/
import Derived.Test.YtnlblmnoiepeaaaGreatDoorF0
import Derived.Test.YtnlblmnoiepeaaaGreatDoorFSh
import Derived.Test.YtnlblmnoiepeaaaGreatDoorF1
set_option linter.unusedVariables false
set_option maxRecDepth 100000
namespace Go.Am
open Go Go.Proofs
abbrev T_z64z : Type 1 := G_Stream → Int → {R : Type} → (G_Contact → G_Stream → Option R) → Option R
structure C_z64z where
 N : Nat
 z57z : T_z57z
 z59z : T_z59z
 z60z : T_z60z
 z72z : T_z72z
 z42z : T_z42z
 Stream_Odd : T_Stream_Odd
def z64z_ (g : C_z64z) (a1 : G_Stream) (a2 : Int) {R : Type} (k0 : G_Contact → G_Stream → Option R) : Option R :=
 (g.z60z a1 [1, 1, 2, 3] (fun r3 r4 => (g.z42z r4 [[98, 50, 48], [98, 50, 48], [98, 52, 48]] (fun r5 r6 => (g.z72z r6 (fun r7 r8 => (g.z60z r8 [0, 1, 2, 3, 4, 5, 6, 7] (fun r9 r10 => (g.z60z r10 [0, 1, 2, 9] (fun r11 r12 => (g.z42z r12 [[], [], [102, 105, 110]] (fun r13 r14 => (g.z42z r14 [[], [], [117, 115, 97]] (fun r15 r16 => (g.z57z r16 100 (fun r17 r18 => (bif r17 then (g.z59z r18 4 (fun r19 r20 => (bif (r19 == 0) then (g.Stream_Odd r20 0 500 (fun r21 r22 => (g.Stream_Odd r22 1 3 (fun r23 r24 => k0 (⟨r21, r23, r5, r7, r9, r11, r13, r15⟩ : G_Contact) r24)))) else (bif (r19 == 1) then (g.z42z r20 [[], [66], [98, 50, 48]] (fun r25 r26 => k0 (⟨a2, r3, r25, r7, r9, r11, r13, r15⟩ : G_Contact) r26)) else (bif (r19 == 2) then (g.Stream_Odd r20 0 99999 (fun r27 r28 => (g.Stream_Odd r28 0 99999 (fun r29 r30 => k0 (⟨a2, r3, r5, r7, r27, r29, r13, r15⟩ : G_Contact) r30)))) else (g.z42z r20 [[], [65]] (fun r31 r32 => (g.z42z r32 [[49], [117, 115, 97]] (fun r33 r34 => k0 (⟨a2, r3, r5, r7, r9, r11, r31, r33⟩ : G_Contact) r34))))))))) else k0 (⟨a2, r3, r5, r7, r9, r11, r13, r15⟩ : G_Contact) r18)))))))))))))))))
noncomputable def I_z64z [Fuel] : C_z64z := ⟨NN, @z57z _, @z59z _, @z60z _, @z72z _, @z42z _, @Stream_Odd _⟩
noncomputable def z64z [Fuel] : T_z64z := @z64z_ I_z64z
def SS_z64z (g : T_z64z) : Spec A := fun args => match args with | [.box [.d (.sl 3 a1), .d (.int .i64 a2)], .d (.int .i64 a3)] => fun k => g ⟨a1, a2⟩ a3 (fun z0 z1 => k (.agg [.d (.int .i64 z0.f_At), .d (.int .i64 z0.f_Mode), .d (.str z0.f_Band), .d (.str z0.f_Call), .d (.int .i64 z0.f_Sent), .d (.int .i64 z0.f_Heard), .d (.str z0.f_Gave), .d (.str z0.f_Got)]) [.box [.d (.sl 3 z1.f_L), .d (.int .i64 z1.f_at)], .undef]) | _ => fun _ => none
noncomputable def code_65 : Code := (Tryz.f65.body).getD .skip
noncomputable def E_z64z (g : C_z64z) : Env A := mkE [(25, SS_z57z g.z57z), (28, SS_z59z g.z59z), (55, SS_z60z g.z60z), (56, SS_z72z g.z72z), (57, SS_z42z g.z42z), (58, SS_Stream_Odd g.Stream_Odd)] [(4, [1]), (5, [8]), (8, [2]), (11, [3]), (16, [4]), (19, [5]), (22, [6]), (25, [7]), (33, [10]), (36, [11]), (51, [9])] [] [] [] [] [] [] [] [0]
theorem sm_z64z (g : C_z64z) : Same (SS_z64z (@z64z_ g)) (abody (E_z64z g) Tryz.f65 code_65 12 [0] [.asis] g.N) := by intro args; unfold SS_z64z; split; exact .inr fun R k => (by kernel_rfl); exact .inl fun R k => rfl
theorem ok_z64z [Fuel] : Ok 65 (SS_z64z (@z64z _)) := okF_of std (.cons ok_z57z (.cons ok_z59z (.cons ok_z60z (.cons ok_z72z (.cons ok_z42z (.cons ok_Stream_Odd .nil)))))) ⟨rfl, rfl, by kernel_rfl, rfl, rfl, rfl⟩ (sm_z64z I_z64z) (cuts0 (fun _ => rfl) (by kernel_rfl)) Tryz.func65 (by kernel_rfl) (by kernel_rfl)
abbrev T_Q_sign : Type 1 := Int → {R : Type} → (Int → Option R) → Option R
def Q_sign_ (g : Nat) (a1 : Int) {R : Type} (k0 : Int → Option R) : Option R :=
 (bif (decide (a1 < 0)) then k0 (-1) else (bif (decide (a1 > 0)) then k0 1 else k0 0))
noncomputable def Q_sign [Fuel] : T_Q_sign := @Q_sign_ NN
def SS_Q_sign (g : T_Q_sign) : Spec A := fun args => match args with | [.d (.int .i64 a1)] => fun k => g a1 (fun z0 => k (.d (.int .i64 z0)) [.undef]) | _ => fun _ => none
noncomputable def code_115 : Code := (Tryz.f115.body).getD .skip
noncomputable def E_Q_sign (g : Nat) : Env A := mkE [] [] [] [] [] [] [] [] [] []
theorem sm_Q_sign (g : Nat) : Same (SS_Q_sign (@Q_sign_ g)) (abody (E_Q_sign g) Tryz.f115 code_115 0 [] [.asis] g) := by intro args; unfold SS_Q_sign; split; exact .inr fun R k => (by kernel_rfl); exact .inl fun R k => rfl
theorem ok_Q_sign [Fuel] : Ok 115 (SS_Q_sign (@Q_sign _)) := okF_of std .nil ⟨rfl, rfl, by kernel_rfl, rfl, rfl, rfl⟩ (sm_Q_sign NN) (cuts0 (fun _ => rfl) (by kernel_rfl)) Tryz.func115 (by kernel_rfl) (by kernel_rfl)
abbrev T_strings_Compare : Type 1 := List UInt8 → List UInt8 → {R : Type} → (Int → Option R) → Option R
def strings_Compare [Fuel] : T_strings_Compare := @X_cmp
def SS_strings_Compare (g : T_strings_Compare) : Spec A := SSX_cmp g
theorem ok_strings_Compare [Fuel] : Ok 116 (SS_strings_Compare (@strings_Compare _)) := ⟨ssx_cmp_sound (cmp_sound (Any.strings_Compare Tryz.lays106)), ssx_cmp_nat, enters_of (fn := Tryz.f116) Tryz.func116 (by kernel_rfl) (by kernel_rfl)⟩
theorem okd_strings_Compare [Fuel] : OkD 116 (SS_strings_Compare (@strings_Compare _)) := ⟨ssx_cmp_sound (cmp_sound (Any.strings_Compare Tryz.lays106)), ssx_cmp_nat, enters_of (fn := Tryz.f116) Tryz.func116 (by kernel_rfl) (by kernel_rfl)⟩
abbrev T_z7z : Type 1 := G_Contact → G_Contact → {R : Type} → (Int → Option R) → Option R
structure C_z7z where
 N : Nat
 Q_sign : T_Q_sign
 strings_Compare : T_strings_Compare
def z7z_ (g : C_z7z) (a1 a2 : G_Contact) {R : Type} (k0 : Int → Option R) : Option R :=
 (bif (a1.f_At != a2.f_At) then (g.Q_sign (w64 (a1.f_At - a2.f_At)) (fun r3 => k0 r3)) else (bif (!(a1.f_Call == a2.f_Call)) then (g.strings_Compare a1.f_Call a2.f_Call (fun r4 => k0 r4)) else (bif (!(a1.f_Band == a2.f_Band)) then (g.strings_Compare a1.f_Band a2.f_Band (fun r5 => k0 r5)) else (g.Q_sign (w64 (a1.f_Mode - a2.f_Mode)) (fun r6 => k0 r6)))))
noncomputable def I_z7z [Fuel] : C_z7z := ⟨NN, @Q_sign _, @strings_Compare _⟩
noncomputable def z7z [Fuel] : T_z7z := @z7z_ I_z7z
def SS_z7z (g : T_z7z) : Spec A := fun args => match args with | [.agg [.d (.int .i64 a1), .d (.int .i64 a2), .d (.str a3), .d (.str a4), .d (.int .i64 a5), .d (.int .i64 a6), .d (.str a7), .d (.str a8)], .agg [.d (.int .i64 a9), .d (.int .i64 a10), .d (.str a11), .d (.str a12), .d (.int .i64 a13), .d (.int .i64 a14), .d (.str a15), .d (.str a16)]] => fun k => g ⟨a1, a2, a3, a4, a5, a6, a7, a8⟩ ⟨a9, a10, a11, a12, a13, a14, a15, a16⟩ (fun z0 => k (.d (.int .i64 z0)) [.undef, .undef]) | _ => fun _ => none
noncomputable def code_67 : Code := (Tryz.f67.body).getD .skip
noncomputable def E_z7z (g : C_z7z) : Env A := mkE [(115, SS_Q_sign g.Q_sign), (116, SS_strings_Compare g.strings_Compare)] [(2, [0]), (3, [1])] [] [] [] [] [] [] [] []
theorem sm_z7z (g : C_z7z) : Same (SS_z7z (@z7z_ g)) (abody (E_z7z g) Tryz.f67 code_67 2 [] [.asis] g.N) := by intro args; unfold SS_z7z; split; exact .inr fun R k => (by kernel_rfl); exact .inl fun R k => rfl
theorem ok_z7z [Fuel] : Ok 67 (SS_z7z (@z7z _)) := okF_of std (.cons ok_Q_sign (.cons ok_strings_Compare .nil)) ⟨rfl, rfl, by kernel_rfl, rfl, rfl, rfl⟩ (sm_z7z I_z7z) (cuts0 (fun _ => rfl) (by kernel_rfl)) Tryz.func67 (by kernel_rfl) (by kernel_rfl)
abbrev T_z3z : Type 1 := List G_Contact → Int → Int → {R : Type} → (List G_Contact → Option R) → Option R
structure C_z3z where
 N : Nat
 z7z : T_z7z
def z3z_L4 (g : C_z3z) : Nat → Int → Int → Int → Int → List G_Contact → {R : Type} → (Int → Int → Int → List G_Contact → Option R) → Option R
 | 0, _, _, _, _, _, _, _ => none
 | n + 1, v31, v32, v33, v34, v35, _, e0 => (bif (decide (v34 > v31)) then (inr v35 v34 (at_ v35 v34 fun x43 => (inr v35 (w64 (v34 - 1)) (at_ v35 (w64 (v34 - 1)) fun x44 => (g.z7z x43 x44 (fun r45 => (bif (decide (r45 < 0)) then (inr v35 (w64 (v34 - 1)) (at_ v35 (w64 (v34 - 1)) fun x46 => (inr v35 v34 (at_ v35 v34 fun x47 => (inr v35 v34 (at_ v35 v34 fun x48 => (inr (set_ v35 v34 x46) (w64 (v34 - 1)) (at_ (set_ v35 v34 x46) (w64 (v34 - 1)) fun x49 => z3z_L4 g n v31 v32 v33 (w64 (v34 - 1)) (set_ (set_ v35 v34 x46) (w64 (v34 - 1)) x47) e0)))))))) else e0 v31 v32 v33 v35))))))) else e0 v31 v32 v33 v35)
def z3z_L1 (g : C_z3z) : Nat → Int → Int → Int → List G_Contact → {R : Type} → (List G_Contact → Option R) → Option R
 | 0, _, _, _, _, _, _ => none
 | n + 1, v4, v5, v6, v7, _, e0 => (bif (decide (v6 < v5)) then (z3z_L4 g g.N v4 v5 v6 v6 v7 (fun e50 e51 e52 e53 => z3z_L1 g n e50 e51 (w64 (e52 + 1)) e53 e0)) else e0 v7)
def z3z_ (g : C_z3z) (a1 : List G_Contact) (a2 a3 : Int) {R : Type} (k0 : List G_Contact → Option R) : Option R :=
 (z3z_L1 g g.N a2 a3 (w64 (a2 + 1)) a1 (fun e54 => k0 e54))
noncomputable def I_z3z [Fuel] : C_z3z := ⟨NN, @z7z _⟩
noncomputable def z3z [Fuel] : T_z3z := @z3z_ I_z3z
def SS_z3z (g : T_z3z) : Spec A := fun args => match args with | [.arr 38 a1, .d (.int .i64 a2), .d (.int .i64 a3), .fn 67 []] => fun k => g a1 a2 a3 (fun z0 => k (.tup []) [.arr 38 z0, .undef, .undef, .fn 67 []]) | _ => fun _ => none
def sh_z3z_L4 : SSt := mkSh 53 1 [(0, .own 38 0), (1, .int .i64), (2, .int .i64), (3, .fn 67 []), (8, .int .i64), (9, .int .i64)] [(0, .row 38)]
def LP_z3z_L4 (g : C_z3z) (n : Nat) : LPT A := fun ps => match ps with | [.d (.int .i64 p1), .d (.int .i64 p2), .d (.int .i64 p3), .d (.int .i64 p4), .d (.sl 38 p5)] => fun K => z3z_L4 g n p1 p2 p3 p4 p5 (fun z0 z1 z2 z3 => K (.exit 2) (mkSt 53 1 [(0, .own 38 0), (1, .d (.int .i64 z0)), (2, .d (.int .i64 z1)), (3, .fn 67 []), (8, .d (.int .i64 z2))] [(0, some (.row 38 z3))])) | _ => fun _ => none
def sh_z3z_L1 : SSt := mkSh 53 1 [(0, .own 38 0), (1, .int .i64), (2, .int .i64), (3, .fn 67 []), (8, .int .i64)] [(0, .row 38)]
def LP_z3z_L1 (g : C_z3z) (n : Nat) : LPT A := fun ps => match ps with | [.d (.int .i64 p1), .d (.int .i64 p2), .d (.int .i64 p3), .d (.sl 38 p4)] => fun K => z3z_L1 g n p1 p2 p3 p4 (fun z0 => K (.exit 0) (mkSt 53 1 [(0, .own 38 0), (3, .fn 67 [])] [(0, some (.row 38 z0))])) | _ => fun _ => none
noncomputable def code_159 : Code := (Tryz.f159.body).getD .skip
noncomputable def E_z3z (g : C_z3z) : Env A := mkE [(67, SS_z7z g.z7z)] [] [(4, ⟨[0, 1, 2, 3, 8, 9], [], [0], [], [], [], []⟩), (1, ⟨[0, 1, 2, 3, 8], [], [0], [], [], [], []⟩)] [(4, ⟨[0, 1, 2, 3, 8], [], [0], [], [], [], []⟩), (1, ⟨[0, 3], [], [0], [], [], [], []⟩)] [(4, pieceOf sh_z3z_L4 (LP_z3z_L4 g g.N)), (1, pieceOf sh_z3z_L1 (LP_z3z_L1 g g.N))] [] [] [] [] [0, 3]
theorem ct_z3z [Fuel] : NatTab (E_z3z I_z3z).C := ct_of (P := Tryz.prog) (T := T) (.cons ok_z7z .nil) (by kernel_rfl)
noncomputable def cb_z3z_L4 : Code := sub [1, 0, 0, 1, 0, 0, 1, 0, 0] code_159
theorem s_z3z_L4 (g : C_z3z) (n : Nat) : StepOk (E_z3z g) g.N cb_z3z_L4 sh_z3z_L4 (LP_z3z_L4 g) n := by intro ps; unfold LP_z3z_L4; split; exact .inr fun R K => (by kernel_rfl); exact .inl fun R K => rfl
theorem lf_z3z_L4 [Fuel] : LoopFine (E_z3z I_z3z) NN cb_z3z_L4 := fine_loop sh_z3z_L4 (LP_z3z_L4 I_z3z) (by kernel_rfl) ct_z3z (cuts0 (fun _ => rfl) (by kernel_rfl)) (fun ps R K => by unfold LP_z3z_L4; split <;> (try unfold z3z_L4) <;> rfl) (s_z3z_L4 I_z3z)
noncomputable def cb_z3z_L1 : Code := sub [1, 0, 0] code_159
theorem s_z3z_L1 (g : C_z3z) (n : Nat) : StepOk (E_z3z g) g.N cb_z3z_L1 sh_z3z_L1 (LP_z3z_L1 g) n := by intro ps; unfold LP_z3z_L1; split; exact .inr fun R K => (by kernel_rfl); exact .inl fun R K => rfl
theorem lf_z3z_L1 [Fuel] : LoopFine (E_z3z I_z3z) NN cb_z3z_L1 := fine_loop sh_z3z_L1 (LP_z3z_L1 I_z3z) (by kernel_rfl) ct_z3z (cutsL (fun _ => rfl) (.cons lf_z3z_L4 .nil) (by kernel_rfl)) (fun ps R K => by unfold LP_z3z_L1; split <;> (try unfold z3z_L1) <;> rfl) (s_z3z_L1 I_z3z)
theorem sm_z3z (g : C_z3z) : Same (SS_z3z (@z3z_ g)) (abody (E_z3z g) Tryz.f159 code_159 1 [0] [] g.N) := by intro args; unfold SS_z3z; split; exact .inr fun R k => (by kernel_rfl); exact .inl fun R k => rfl
theorem ok_z3z [Fuel] : Ok 159 (SS_z3z (@z3z _)) := okF_of std (.cons ok_z7z .nil) ⟨rfl, rfl, by kernel_rfl, rfl, rfl, rfl⟩ (sm_z3z I_z3z) (cutsL (fun _ => rfl) (.cons lf_z3z_L4 (.cons lf_z3z_L1 .nil)) (by kernel_rfl)) Tryz.func159 (by kernel_rfl) (by kernel_rfl)
abbrev T_z2z : Type 1 := List G_Contact → Int → {R : Type} → (List G_Contact → Option R) → Option R
structure C_z2z where
 N : Nat
 z3z : T_z3z
def z2z_L2 (g : C_z2z) : Nat → Int → Int → Int → Int → List G_Contact → {R : Type} → (Int → Int → Int → List G_Contact → Option R) → Option R
 | 0, _, _, _, _, _, _, _ => none
 | n + 1, v3, v4, v5, v6, v7, _, e0 => (bif (decide (v6 ≤ v3)) then (g.z3z v7 v5 v6 (fun r9 => z2z_L2 g n v3 v4 v6 (w64 (v6 + v4)) r9 e0)) else e0 v3 v4 v5 v7)
def z2z_L9 (g : C_z2z) : Nat → Int → Int → Int → Int → List G_Contact → {R : Type} → (Int → Int → Int → List G_Contact → Option R) → Option R
 | 0, _, _, _, _, _, _, _ => none
 | n + 1, v27, v28, v29, v30, v31, _, e0 => (bif (decide (v30 ≤ v27)) then none else e0 v27 v28 v29 v31)
def z2z_L7 (g : C_z2z) : Nat → Int → Int → List G_Contact → {R : Type} → (List G_Contact → Option R) → Option R
 | 0, _, _, _, _, _ => none
 | n + 1, v15, v16, v17, _, e0 => (bif (decide (v16 < v15)) then (z2z_L9 g g.N v15 v16 0 (w64 (2 * v16)) v17 (fun e32 e33 e34 e35 => (bif (decide ((w64 (e34 + e33)) < e32)) then none else z2z_L7 g n e32 (w64 (e33 * 2)) e35 e0))) else e0 v17)
def z2z_ (g : C_z2z) (a1 : List G_Contact) (a2 : Int) {R : Type} (k0 : List G_Contact → Option R) : Option R :=
 (z2z_L2 g g.N a2 20 0 20 a1 (fun e10 e11 e12 e13 => (g.z3z e13 e12 e10 (fun r14 => (z2z_L7 g g.N e10 e11 r14 (fun e36 => k0 e36))))))
noncomputable def I_z2z [Fuel] : C_z2z := ⟨NN, @z3z _⟩
noncomputable def z2z [Fuel] : T_z2z := @z2z_ I_z2z
def SS_z2z (g : T_z2z) : Spec A := fun args => match args with | [.arr 38 a1, .d (.int .i64 a2), .fn 67 []] => fun k => g a1 a2 (fun z0 => k (.tup []) [.arr 38 z0, .undef, .fn 67 []]) | _ => fun _ => none
def sh_z2z_L2 : SSt := mkSh 63 1 [(0, .own 38 0), (1, .int .i64), (2, .fn 67 []), (6, .int .i64), (7, .int .i64), (8, .int .i64)] [(0, .row 38)]
def LP_z2z_L2 (g : C_z2z) (n : Nat) : LPT A := fun ps => match ps with | [.d (.int .i64 p1), .d (.int .i64 p2), .d (.int .i64 p3), .d (.int .i64 p4), .d (.sl 38 p5)] => fun K => z2z_L2 g n p1 p2 p3 p4 p5 (fun z0 z1 z2 z3 => K (.exit 0) (mkSt 63 1 [(0, .own 38 0), (1, .d (.int .i64 z0)), (2, .fn 67 []), (6, .d (.int .i64 z1)), (7, .d (.int .i64 z2))] [(0, some (.row 38 z3))])) | _ => fun _ => none
def sh_z2z_L9 : SSt := mkSh 63 1 [(0, .own 38 0), (1, .int .i64), (2, .fn 67 []), (6, .int .i64), (7, .int .i64), (8, .int .i64)] [(0, .row 38)]
def LP_z2z_L9 (g : C_z2z) (n : Nat) : LPT A := fun ps => match ps with | [.d (.int .i64 p1), .d (.int .i64 p2), .d (.int .i64 p3), .d (.int .i64 p4), .d (.sl 38 p5)] => fun K => z2z_L9 g n p1 p2 p3 p4 p5 (fun z0 z1 z2 z3 => K (.exit 4) (mkSt 63 1 [(0, .own 38 0), (1, .d (.int .i64 z0)), (2, .fn 67 []), (6, .d (.int .i64 z1)), (7, .d (.int .i64 z2))] [(0, some (.row 38 z3))])) | _ => fun _ => none
def sh_z2z_L7 : SSt := mkSh 63 1 [(0, .own 38 0), (1, .int .i64), (2, .fn 67 []), (6, .int .i64)] [(0, .row 38)]
def LP_z2z_L7 (g : C_z2z) (n : Nat) : LPT A := fun ps => match ps with | [.d (.int .i64 p1), .d (.int .i64 p2), .d (.sl 38 p3)] => fun K => z2z_L7 g n p1 p2 p3 (fun z0 => K (.exit 2) (mkSt 63 1 [(0, .own 38 0), (2, .fn 67 [])] [(0, some (.row 38 z0))])) | _ => fun _ => none
noncomputable def code_114 : Code := (Tryz.f114.body).getD .skip
noncomputable def E_z2z (g : C_z2z) : Env A := mkE [(159, SS_z3z g.z3z)] [] [(2, ⟨[0, 1, 2, 6, 7, 8], [], [0], [], [], [], []⟩), (9, ⟨[0, 1, 2, 6, 7, 8], [], [0], [], [], [], []⟩), (7, ⟨[0, 1, 2, 6], [], [0], [], [], [], []⟩)] [(2, ⟨[0, 1, 2, 6, 7], [], [0], [], [], [], []⟩), (9, ⟨[0, 1, 2, 6, 7], [], [0], [], [], [], []⟩), (7, ⟨[0, 2], [], [0], [], [], [], []⟩)] [(2, pieceOf sh_z2z_L2 (LP_z2z_L2 g g.N)), (9, pieceOf sh_z2z_L9 (LP_z2z_L9 g g.N)), (7, pieceOf sh_z2z_L7 (LP_z2z_L7 g g.N))] [] [] [] [(159, 0)] [0, 2]
theorem ct_z2z [Fuel] : NatTab (E_z2z I_z2z).C := ct_of (P := Tryz.prog) (T := T) (.cons ok_z3z .nil) (by kernel_rfl)
noncomputable def cb_z2z_L2 : Code := sub [1, 1, 0, 0, 0] code_114
theorem s_z2z_L2 (g : C_z2z) (n : Nat) : StepOk (E_z2z g) g.N cb_z2z_L2 sh_z2z_L2 (LP_z2z_L2 g) n := by intro ps; unfold LP_z2z_L2; split; exact .inr fun R K => (by kernel_rfl); exact .inl fun R K => rfl
theorem lf_z2z_L2 [Fuel] : LoopFine (E_z2z I_z2z) NN cb_z2z_L2 := fine_loop sh_z2z_L2 (LP_z2z_L2 I_z2z) (by kernel_rfl) ct_z2z (cuts0 (fun _ => rfl) (by kernel_rfl)) (fun ps R K => by unfold LP_z2z_L2; split <;> (try unfold z2z_L2) <;> rfl) (s_z2z_L2 I_z2z)
noncomputable def cb_z2z_L9 : Code := sub [1, 1, 1, 1, 0, 0, 1, 0, 1, 0, 0, 0] code_114
theorem s_z2z_L9 (g : C_z2z) (n : Nat) : StepOk (E_z2z g) g.N cb_z2z_L9 sh_z2z_L9 (LP_z2z_L9 g) n := by intro ps; unfold LP_z2z_L9; split; exact .inr fun R K => (by kernel_rfl); exact .inl fun R K => rfl
theorem lf_z2z_L9 [Fuel] : LoopFine (E_z2z I_z2z) NN cb_z2z_L9 := fine_loop sh_z2z_L9 (LP_z2z_L9 I_z2z) (by kernel_rfl) ct_z2z (cuts0 (fun _ => rfl) (by kernel_rfl)) (fun ps R K => by unfold LP_z2z_L9; split <;> (try unfold z2z_L9) <;> rfl) (s_z2z_L9 I_z2z)
noncomputable def cb_z2z_L7 : Code := sub [1, 1, 1, 1, 0, 0] code_114
theorem s_z2z_L7 (g : C_z2z) (n : Nat) : StepOk (E_z2z g) g.N cb_z2z_L7 sh_z2z_L7 (LP_z2z_L7 g) n := by intro ps; unfold LP_z2z_L7; split; exact .inr fun R K => (by kernel_rfl); exact .inl fun R K => rfl
theorem lf_z2z_L7 [Fuel] : LoopFine (E_z2z I_z2z) NN cb_z2z_L7 := fine_loop sh_z2z_L7 (LP_z2z_L7 I_z2z) (by kernel_rfl) ct_z2z (cutsL (fun _ => rfl) (.cons lf_z2z_L9 .nil) (by kernel_rfl)) (fun ps R K => by unfold LP_z2z_L7; split <;> (try unfold z2z_L7) <;> rfl) (s_z2z_L7 I_z2z)
theorem sm_z2z (g : C_z2z) : Same (SS_z2z (@z2z_ g)) (abody (E_z2z g) Tryz.f114 code_114 1 [0] [] g.N) := by intro args; unfold SS_z2z; split; exact .inr fun R k => (by kernel_rfl); exact .inl fun R k => rfl
theorem ok_z2z [Fuel] : Ok 114 (SS_z2z (@z2z _)) := okF_of std (.cons ok_z3z .nil) ⟨rfl, rfl, by kernel_rfl, rfl, rfl, rfl⟩ (sm_z2z I_z2z) (cutsL (fun _ => rfl) (.cons lf_z2z_L2 (.cons lf_z2z_L9 (.cons lf_z2z_L7 .nil))) (by kernel_rfl)) Tryz.func114 (by kernel_rfl) (by kernel_rfl)
abbrev T_z25z : Type 1 := List G_Contact → {R : Type} → (List G_Contact → Option R) → Option R
structure C_z25z where
 N : Nat
 z2z : T_z2z
def z25z_ (g : C_z25z) (a1 : List G_Contact) {R : Type} (k0 : List G_Contact → Option R) : Option R :=
 (g.z2z a1 (a1.length : Int) (fun r2 => k0 r2))
noncomputable def I_z25z [Fuel] : C_z25z := ⟨NN, @z2z _⟩
noncomputable def z25z [Fuel] : T_z25z := @z25z_ I_z25z
def SS_z25z (g : T_z25z) : Spec A := fun args => match args with | [.arr 38 a1, .fn 67 []] => fun k => g a1 (fun z0 => k (.tup []) [.arr 38 z0, .fn 67 []]) | _ => fun _ => none
noncomputable def code_66 : Code := (Tryz.f66.body).getD .skip
noncomputable def E_z25z (g : C_z25z) : Env A := mkE [(114, SS_z2z g.z2z)] [] [] [] [] [] [] [] [(114, 0)] [0, 1]
theorem sm_z25z (g : C_z25z) : Same (SS_z25z (@z25z_ g)) (abody (E_z25z g) Tryz.f66 code_66 1 [0] [] g.N) := by intro args; unfold SS_z25z; split; exact .inr fun R k => (by kernel_rfl); exact .inl fun R k => rfl
theorem ok_z25z [Fuel] : Ok 66 (SS_z25z (@z25z _)) := okF_of std (.cons ok_z2z .nil) ⟨rfl, rfl, by kernel_rfl, rfl, rfl, rfl⟩ (sm_z25z I_z25z) (cuts0 (fun _ => rfl) (by kernel_rfl)) Tryz.func66 (by kernel_rfl) (by kernel_rfl)
abbrev T_z15z : Type 1 := G_Contact → G_Contact → {R : Type} → (Bool → Option R) → Option R
structure C_z15z where
 N : Nat
 z7z : T_z7z
def z15z_ (g : C_z15z) (a1 a2 : G_Contact) {R : Type} (k0 : Bool → Option R) : Option R :=
 (g.z7z a1 a2 (fun r3 => k0 (r3 == 0)))
noncomputable def I_z15z [Fuel] : C_z15z := ⟨NN, @z7z _⟩
noncomputable def z15z [Fuel] : T_z15z := @z15z_ I_z15z
def SS_z15z (g : T_z15z) : Spec A := fun args => match args with | [.agg [.d (.int .i64 a1), .d (.int .i64 a2), .d (.str a3), .d (.str a4), .d (.int .i64 a5), .d (.int .i64 a6), .d (.str a7), .d (.str a8)], .agg [.d (.int .i64 a9), .d (.int .i64 a10), .d (.str a11), .d (.str a12), .d (.int .i64 a13), .d (.int .i64 a14), .d (.str a15), .d (.str a16)]] => fun k => g ⟨a1, a2, a3, a4, a5, a6, a7, a8⟩ ⟨a9, a10, a11, a12, a13, a14, a15, a16⟩ (fun z0 => k (.d (.bool z0)) [.undef, .undef]) | _ => fun _ => none
noncomputable def code_69 : Code := (Tryz.f69.body).getD .skip
noncomputable def E_z15z (g : C_z15z) : Env A := mkE [(67, SS_z7z g.z7z)] [(2, [0]), (3, [1])] [] [] [] [] [] [] [] []
theorem sm_z15z (g : C_z15z) : Same (SS_z15z (@z15z_ g)) (abody (E_z15z g) Tryz.f69 code_69 2 [] [.asis] g.N) := by intro args; unfold SS_z15z; split; exact .inr fun R k => (by kernel_rfl); exact .inl fun R k => rfl
theorem ok_z15z [Fuel] : Ok 69 (SS_z15z (@z15z _)) := okF_of std (.cons ok_z7z .nil) ⟨rfl, rfl, by kernel_rfl, rfl, rfl, rfl⟩ (sm_z15z I_z15z) (cuts0 (fun _ => rfl) (by kernel_rfl)) Tryz.func69 (by kernel_rfl) (by kernel_rfl)
abbrev T_z6z : Type 1 := List G_Contact → {R : Type} → (List G_Contact → Option R) → Option R
structure C_z6z where
 N : Nat
 z15z : T_z15z
def z6z_L9 (g : C_z6z) : Nat → Int → Int → Int → Int → List G_Contact → {R : Type} → (Int → List G_Contact → Option R) → Option R
 | 0, _, _, _, _, _, _, _ => none
 | n + 1, v27, v28, v29, v30, v31, _, e0 => (bif (decide (v30 < ((v29 - v28).toNat : Int))) then (bif (decide (0 ≤ v30) && (decide (v30 < v29 - v28) && decide (v28 + v30 < (v31.length : Int)))) then (at_ v31 (v28 + v30) fun x37 => (bif (decide (0 ≤ (w64 (v30 - 1))) && (decide ((w64 (v30 - 1)) < v29 - v28) && decide (v28 + (w64 (v30 - 1)) < (v31.length : Int)))) then (at_ v31 (v28 + (w64 (v30 - 1))) fun x38 => (g.z15z x37 x38 (fun r39 => (bif (!r39) then (bif (decide (0 ≤ v30) && (decide (v30 < v29 - v28) && decide (v28 + v30 < (v31.length : Int)))) then (at_ v31 (v28 + v30) fun x40 => (inr v31 v27 (at_ v31 v27 fun x41 => z6z_L9 g n (w64 (v27 + 1)) v28 v29 (w64 (v30 + 1)) (set_ v31 v27 x40) e0))) else none) else z6z_L9 g n v27 v28 v29 (w64 (v30 + 1)) v31 e0)))) else none)) else none) else e0 v27 v31)
def z6z_L4 (g : C_z6z) : Nat → Int → List G_Contact → {R : Type} → (List G_Contact → Option R) → (List G_Contact → Option R) → Option R
 | 0, _, _, _, _, _ => none
 | n + 1, v2, v3, _, e0, e1 => (bif (decide (v2 < (v3.length : Int))) then (inr v3 v2 (at_ v3 v2 fun x24 => (inr v3 (w64 (v2 - 1)) (at_ v3 (w64 (v2 - 1)) fun x25 => (g.z15z x24 x25 (fun r26 => (bif r26 then (bif (decide (0 < v3.length) && (decide (0 ≤ v2) && decide (v2 ≤ (v3.length : Int)))) then (z6z_L9 g g.N v2 v2 (v3.length : Int) 1 v3 (fun e42 e43 => (bif (decide (0 < e43.length) && (decide (0 ≤ e42) && decide (e42 ≤ (e43.length : Int)))) then (bif (decide (0 ≤ e42) && (decide (e42 ≤ (e43.length : Int)) && decide (((e43.length : Int)).toNat ≤ e43.length))) then (bif (decide (0 ≤ e42) && decide (e42 ≤ ((e43.take (e42).toNat ++ (List.replicate ((e43.length : Int) - e42).toNat (⟨0, 0, [], [], 0, 0, [], []⟩ : G_Contact) ++ e43.drop ((e43.length : Int)).toNat)).length : Int))) then e0 ((e43.take (e42).toNat ++ (List.replicate ((e43.length : Int) - e42).toNat (⟨0, 0, [], [], 0, 0, [], []⟩ : G_Contact) ++ e43.drop ((e43.length : Int)).toNat)).take (e42 : Int).toNat) else none) else none) else none))) else none) else z6z_L4 g n (w64 (v2 + 1)) v3 e0 e1))))))) else e1 v3)
def z6z_ (g : C_z6z) (a1 : List G_Contact) {R : Type} (k0 : List G_Contact → Option R) : Option R :=
 (bif (decide ((a1.length : Int) < 2)) then k0 a1 else (z6z_L4 g g.N 1 a1 (fun e44 => k0 e44) (fun e45 => k0 e45)))
noncomputable def I_z6z [Fuel] : C_z6z := ⟨NN, @z15z _⟩
noncomputable def z6z [Fuel] : T_z6z := @z6z_ I_z6z
def SS_z6z (g : T_z6z) : Spec A := fun args => match args with | [.arr 38 a1, .fn 69 []] => fun k => g a1 (fun z0 => k (.arr 38 z0) [.undef, .fn 69 []]) | _ => fun _ => none
def sh_z6z_L9 : SSt := mkSh 66 6 [(0, .own 38 0), (1, .fn 69 []), (5, .int .i64), (6, .vw 38 0), (7, .int .i64)] [(0, .row 38)]
def LP_z6z_L9 (g : C_z6z) (n : Nat) : LPT A := fun ps => match ps with | [.d (.int .i64 p1), .z p2, .z p3, .d (.int .i64 p4), .d (.sl 38 p5)] => fun K => z6z_L9 g n p1 p2 p3 p4 p5 (fun z0 z1 => K (.exit 2) (mkSt 66 6 [(0, .own 38 0), (1, .fn 69 []), (5, .d (.int .i64 z0))] [(0, some (.row 38 z1))])) | _ => fun _ => none
def sh_z6z_L4 : SSt := mkSh 66 6 [(0, .own 38 0), (1, .fn 69 []), (5, .int .i64)] [(0, .row 38)]
def LP_z6z_L4 (g : C_z6z) (n : Nat) : LPT A := fun ps => match ps with | [.d (.int .i64 p1), .d (.sl 38 p2)] => fun K => z6z_L4 g n p1 p2 (fun z0 => K .ret (mkSt 66 6 [(0, .own 38 0), (1, .fn 69 []), (4, .own 38 5)] [(5, some (.row 38 z0))])) (fun z0 => K (.exit 0) (mkSt 66 6 [(0, .own 38 0), (1, .fn 69 [])] [(0, some (.row 38 z0))])) | _ => fun _ => none
noncomputable def code_68 : Code := (Tryz.f68.body).getD .skip
noncomputable def E_z6z (g : C_z6z) : Env A := mkE [(69, SS_z15z g.z15z)] [(31, [1, 2]), (61, [3, 4]), (64, [5])] [(9, ⟨[0, 1, 5, 6, 7], [], [0], [], [], [], []⟩), (4, ⟨[0, 1, 5], [], [0], [], [], [], []⟩)] [(9, ⟨[0, 1, 5], [], [0], [], [], [], []⟩), (4, ⟨[0, 1, 4], [], [0, 5], [], [], [], []⟩)] [(9, pieceOf sh_z6z_L9 (LP_z6z_L9 g g.N)), (4, pieceOf sh_z6z_L4 (LP_z6z_L4 g g.N))] [] [] [] [] [1]
theorem ct_z6z [Fuel] : NatTab (E_z6z I_z6z).C := ct_of (P := Tryz.prog) (T := T) (.cons ok_z15z .nil) (by kernel_rfl)
noncomputable def cb_z6z_L9 : Code := sub [1, 1, 0, 1, 0, 0, 1, 0, 0, 1, 0, 1, 0, 1, 0, 0] code_68
theorem s_z6z_L9 (g : C_z6z) (n : Nat) : StepOk (E_z6z g) g.N cb_z6z_L9 sh_z6z_L9 (LP_z6z_L9 g) n := by intro ps; unfold LP_z6z_L9; split; exact .inr fun R K => (by kernel_rfl); exact .inl fun R K => rfl
theorem lf_z6z_L9 [Fuel] : LoopFine (E_z6z I_z6z) NN cb_z6z_L9 := fine_loop sh_z6z_L9 (LP_z6z_L9 I_z6z) (by kernel_rfl) ct_z6z (cuts0 (fun _ => rfl) (by kernel_rfl)) (fun ps R K => by unfold LP_z6z_L9; split <;> (try unfold z6z_L9) <;> rfl) (s_z6z_L9 I_z6z)
noncomputable def cb_z6z_L4 : Code := sub [1, 1, 0, 1, 0, 0] code_68
theorem s_z6z_L4 (g : C_z6z) (n : Nat) : StepOk (E_z6z g) g.N cb_z6z_L4 sh_z6z_L4 (LP_z6z_L4 g) n := by intro ps; unfold LP_z6z_L4; split; exact .inr fun R K => (by kernel_rfl); exact .inl fun R K => rfl
theorem lf_z6z_L4 [Fuel] : LoopFine (E_z6z I_z6z) NN cb_z6z_L4 := fine_loop sh_z6z_L4 (LP_z6z_L4 I_z6z) (by kernel_rfl) ct_z6z (cutsL (fun _ => rfl) (.cons lf_z6z_L9 .nil) (by kernel_rfl)) (fun ps R K => by unfold LP_z6z_L4; split <;> (try unfold z6z_L4) <;> rfl) (s_z6z_L4 I_z6z)
theorem sm_z6z (g : C_z6z) : Same (SS_z6z (@z6z_ g)) (abody (E_z6z g) Tryz.f68 code_68 6 [0] [.arr 38] g.N) := by intro args; unfold SS_z6z; split; exact .inr fun R k => (by kernel_rfl); exact .inl fun R k => rfl
theorem ok_z6z [Fuel] : Ok 68 (SS_z6z (@z6z _)) := okF_of std (.cons ok_z15z .nil) ⟨rfl, rfl, by kernel_rfl, rfl, rfl, rfl⟩ (sm_z6z I_z6z) (cutsL (fun _ => rfl) (.cons lf_z6z_L9 (.cons lf_z6z_L4 .nil)) (by kernel_rfl)) Tryz.func68 (by kernel_rfl) (by kernel_rfl)
end Go.Am
