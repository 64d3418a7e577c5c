/- The functions of the program as Lean functions, each shown to be what the code computes, part 4. No condition: lemmas for the claim. -/
import Derived.Test.YtdpapgakljjnnaaGreatDoorF0
import Derived.Test.YtdpapgakljjnnaaGreatDoorFSh
import Derived.Test.YtdpapgakljjnnaaGreatDoorF1
import Derived.Test.YtdpapgakljjnnaaGreatDoorF2
import Derived.Test.YtdpapgakljjnnaaGreatDoorF3
set_option linter.unusedVariables false
set_option maxRecDepth 100000
namespace Go.Am
open Go Go.Proofs
abbrev T_Q_sameNo : Type 1 := G_Deed → G_Deed → {R : Type} → (Bool → Option R) → Option R
def Q_sameNo_ (g : Nat) (a1 a2 : G_Deed) {R : Type} (k0 : Bool → Option R) : Option R :=
 (bif (a1.f_Site == a2.f_Site) then k0 (a1.f_No == a2.f_No) else k0 false)
noncomputable def Q_sameNo [Fuel] : T_Q_sameNo := @Q_sameNo_ NN
def SS_Q_sameNo (g : T_Q_sameNo) : Spec A := fun args => match args with | [.agg [.d (.str a1), .d (.int .i64 a2), .d (.int .i64 a3), .d (.int .i64 a4), .d (.int .i64 a5), .d (.int .i64 a6), .d (.str a7), .d (.str a8), .d (.int .i64 a9), .d (.int .i64 a10), .d (.str a11), .d (.str a12), .d (.str a13), .d (.str a14), .d (.int .i64 a15)], .agg [.d (.str a16), .d (.int .i64 a17), .d (.int .i64 a18), .d (.int .i64 a19), .d (.int .i64 a20), .d (.int .i64 a21), .d (.str a22), .d (.str a23), .d (.int .i64 a24), .d (.int .i64 a25), .d (.str a26), .d (.str a27), .d (.str a28), .d (.str a29), .d (.int .i64 a30)]] => fun k => g ⟨a1, a2, a3, a4, ⟨a5, a6, a7, a8, a9, a10, a11, a12⟩, a13, a14, a15⟩ ⟨a16, a17, a18, a19, ⟨a20, a21, a22, a23, a24, a25, a26, a27⟩, a28, a29, a30⟩ (fun z0 => k (.d (.bool z0)) [.undef, .undef]) | _ => fun _ => none
noncomputable def code_60 : Code := (Tryz.f60.body).getD .skip
noncomputable def E_Q_sameNo (g : Nat) : Env A := mkE [] [(2, [0]), (3, [1])] [] [] [] [] [] [] [] []
theorem sm_Q_sameNo (g : Nat) : Same (SS_Q_sameNo (@Q_sameNo_ g)) (abody (E_Q_sameNo g) Tryz.f60 code_60 2 [] [.asis] g) := by intro args; unfold SS_Q_sameNo; split; exact .inr fun R k => (by kernel_rfl); exact .inl fun R k => rfl
theorem ok_Q_sameNo [Fuel] : Ok 60 (SS_Q_sameNo (@Q_sameNo _)) := okF_of std .nil ⟨rfl, rfl, by kernel_rfl, rfl, rfl, rfl⟩ (sm_Q_sameNo NN) (cuts0 (fun _ => rfl) (by kernel_rfl)) Tryz.func60 (by kernel_rfl) (by kernel_rfl)
abbrev T_z12z : Type 1 := G_Deed → G_Deed → {R : Type} → (Bool → G_Deed → Option R) → Option R
structure C_z12z where
 N : Nat
 Q_sameNo : T_Q_sameNo
def z12z_ (g : C_z12z) (a1 a2 : G_Deed) {R : Type} (k0 : Bool → G_Deed → Option R) : Option R :=
 (g.Q_sameNo a1 a2 (fun r3 => k0 r3 a2))
noncomputable def I_z12z [Fuel] : C_z12z := ⟨NN, @Q_sameNo _⟩
noncomputable def z12z [Fuel] : T_z12z := @z12z_ I_z12z
def SS_z12z (g : T_z12z) : Spec A := fun args => match args with | [.agg [.d (.str a1), .d (.int .i64 a2), .d (.int .i64 a3), .d (.int .i64 a4), .d (.int .i64 a5), .d (.int .i64 a6), .d (.str a7), .d (.str a8), .d (.int .i64 a9), .d (.int .i64 a10), .d (.str a11), .d (.str a12), .d (.str a13), .d (.str a14), .d (.int .i64 a15)], .box [.d (.str a16), .d (.int .i64 a17), .d (.int .i64 a18), .d (.int .i64 a19), .d (.int .i64 a20), .d (.int .i64 a21), .d (.str a22), .d (.str a23), .d (.int .i64 a24), .d (.int .i64 a25), .d (.str a26), .d (.str a27), .d (.str a28), .d (.str a29), .d (.int .i64 a30)]] => fun k => g ⟨a1, a2, a3, a4, ⟨a5, a6, a7, a8, a9, a10, a11, a12⟩, a13, a14, a15⟩ ⟨a16, a17, a18, a19, ⟨a20, a21, a22, a23, a24, a25, a26, a27⟩, a28, a29, a30⟩ (fun z0 z1 => k (.d (.bool z0)) [.undef, .box [.d (.str z1.f_Site), .d (.int .i64 z1.f_No), .d (.int .i64 z1.f_At), .d (.int .i64 z1.f_Kind), .d (.int .i64 z1.f_Contact.f_At), .d (.int .i64 z1.f_Contact.f_Mode), .d (.str z1.f_Contact.f_Band), .d (.str z1.f_Contact.f_Call), .d (.int .i64 z1.f_Contact.f_Sent), .d (.int .i64 z1.f_Contact.f_Heard), .d (.str z1.f_Contact.f_Gave), .d (.str z1.f_Contact.f_Got), .d (.str z1.f_Band), .d (.str z1.f_Of), .d (.int .i64 z1.f_Other)]]) | _ => fun _ => none
noncomputable def code_59 : Code := (Tryz.f59.body).getD .skip
noncomputable def E_z12z (g : C_z12z) : Env A := mkE [(60, SS_Q_sameNo g.Q_sameNo)] [(2, [1])] [] [] [] [] [] [] [] [1]
theorem sm_z12z (g : C_z12z) : Same (SS_z12z (@z12z_ g)) (abody (E_z12z g) Tryz.f59 code_59 2 [0] [.asis] g.N) := by intro args; unfold SS_z12z; split; exact .inr fun R k => (by kernel_rfl); exact .inl fun R k => rfl
theorem ok_z12z [Fuel] : Ok 59 (SS_z12z (@z12z _)) := okF_of std (.cons ok_Q_sameNo .nil) ⟨rfl, rfl, by kernel_rfl, rfl, rfl, rfl⟩ (sm_z12z I_z12z) (cuts0 (fun _ => rfl) (by kernel_rfl)) Tryz.func59 (by kernel_rfl) (by kernel_rfl)
abbrev T_z4z : Type 1 := List G_Deed → G_Deed → {R : Type} → (Int → G_Deed → Option R) → Option R
structure C_z4z where
 N : Nat
 z12z : T_z12z
def z4z_L2 (g : C_z4z) : Nat → List G_Deed → Int → Int → G_Deed → {R : Type} → (Int → G_Deed → Option R) → (G_Deed → Option R) → Option R
 | 0, _, _, _, _, _, _, _ => none
 | n + 1, v3, v4, v5, v6, _, e0, e1 => (bif (decide (v5 < v4)) then (get_ v3 v5 fun x10 => (g.z12z x10 v6 (fun r11 r12 => (bif r11 then e0 v5 r12 else z4z_L2 g n v3 v4 (w64 (v5 + 1)) r12 e0 e1)))) else e1 v6)
def z4z_ (g : C_z4z) (a1 : List G_Deed) (a2 : G_Deed) {R : Type} (k0 : Int → G_Deed → Option R) : Option R :=
 (z4z_L2 g g.N a1 (a1.length : Int) 0 a2 (fun e13 e14 => k0 e13 e14) (fun e15 => k0 (-1) e15))
noncomputable def I_z4z [Fuel] : C_z4z := ⟨NN, @z12z _⟩
noncomputable def z4z [Fuel] : T_z4z := @z4z_ I_z4z
def SS_z4z (g : T_z4z) : Spec A := fun args => match args with | [.d (.sl 35 a1), .fn 59 [.box [.d (.str a2), .d (.int .i64 a3), .d (.int .i64 a4), .d (.int .i64 a5), .d (.int .i64 a6), .d (.int .i64 a7), .d (.str a8), .d (.str a9), .d (.int .i64 a10), .d (.int .i64 a11), .d (.str a12), .d (.str a13), .d (.str a14), .d (.str a15), .d (.int .i64 a16)]]] => fun k => g a1 ⟨a2, a3, a4, a5, ⟨a6, a7, a8, a9, a10, a11, a12, a13⟩, a14, a15, a16⟩ (fun z0 z1 => k (.d (.int .i64 z0)) [.undef, .fn 59 [.box [.d (.str z1.f_Site), .d (.int .i64 z1.f_No), .d (.int .i64 z1.f_At), .d (.int .i64 z1.f_Kind), .d (.int .i64 z1.f_Contact.f_At), .d (.int .i64 z1.f_Contact.f_Mode), .d (.str z1.f_Contact.f_Band), .d (.str z1.f_Contact.f_Call), .d (.int .i64 z1.f_Contact.f_Sent), .d (.int .i64 z1.f_Contact.f_Heard), .d (.str z1.f_Contact.f_Gave), .d (.str z1.f_Contact.f_Got), .d (.str z1.f_Band), .d (.str z1.f_Of), .d (.int .i64 z1.f_Other)]]]) | _ => fun _ => none
def sh_z4z_L2 : SSt := mkSh 19 1 [(0, .sl 35), (1, .fn 59 [.ptr 0 0]), (7, .int .i64), (8, .int .i64)] [(0, .box [.str, .int .i64, .int .i64, .int .i64, .int .i64, .int .i64, .str, .str, .int .i64, .int .i64, .str, .str, .str, .str, .int .i64])]
def LP_z4z_L2 (g : C_z4z) (n : Nat) : LPT A := fun ps => match ps with | [.d (.sl 35 p1), .d (.int .i64 p2), .d (.int .i64 p3), .d (.str p4), .d (.int .i64 p5), .d (.int .i64 p6), .d (.int .i64 p7), .d (.int .i64 p8), .d (.int .i64 p9), .d (.str p10), .d (.str p11), .d (.int .i64 p12), .d (.int .i64 p13), .d (.str p14), .d (.str p15), .d (.str p16), .d (.str p17), .d (.int .i64 p18)] => fun K => z4z_L2 g n p1 p2 p3 ⟨p4, p5, p6, p7, ⟨p8, p9, p10, p11, p12, p13, p14, p15⟩, p16, p17, p18⟩ (fun z0 z1 => K .ret (mkSt 19 1 [(1, .fn 59 [.ptr 0 0]), (4, .d (.int .i64 z0))] [(0, some (.box [.d (.str z1.f_Site), .d (.int .i64 z1.f_No), .d (.int .i64 z1.f_At), .d (.int .i64 z1.f_Kind), .d (.int .i64 z1.f_Contact.f_At), .d (.int .i64 z1.f_Contact.f_Mode), .d (.str z1.f_Contact.f_Band), .d (.str z1.f_Contact.f_Call), .d (.int .i64 z1.f_Contact.f_Sent), .d (.int .i64 z1.f_Contact.f_Heard), .d (.str z1.f_Contact.f_Gave), .d (.str z1.f_Contact.f_Got), .d (.str z1.f_Band), .d (.str z1.f_Of), .d (.int .i64 z1.f_Other)]))])) (fun z0 => K (.exit 0) (mkSt 19 1 [(1, .fn 59 [.ptr 0 0])] [(0, some (.box [.d (.str z0.f_Site), .d (.int .i64 z0.f_No), .d (.int .i64 z0.f_At), .d (.int .i64 z0.f_Kind), .d (.int .i64 z0.f_Contact.f_At), .d (.int .i64 z0.f_Contact.f_Mode), .d (.str z0.f_Contact.f_Band), .d (.str z0.f_Contact.f_Call), .d (.int .i64 z0.f_Contact.f_Sent), .d (.int .i64 z0.f_Contact.f_Heard), .d (.str z0.f_Contact.f_Gave), .d (.str z0.f_Contact.f_Got), .d (.str z0.f_Band), .d (.str z0.f_Of), .d (.int .i64 z0.f_Other)]))])) | _ => fun _ => none
noncomputable def code_67 : Code := (Tryz.f67.body).getD .skip
noncomputable def E_z4z (g : C_z4z) : Env A := mkE [(59, SS_z12z g.z12z)] [] [(2, ⟨[0, 1, 7, 8], [], [0], [], [], [], []⟩)] [(2, ⟨[1, 4], [], [0], [], [], [], []⟩)] [(2, pieceOf sh_z4z_L2 (LP_z4z_L2 g g.N))] [] [] [] [] [1]
theorem ct_z4z [Fuel] : NatTab (E_z4z I_z4z).C := ct_of (P := Tryz.prog) (T := T) (.cons ok_z12z .nil) (by kernel_rfl)
noncomputable def cb_z4z_L2 : Code := sub [1, 0, 1, 0, 0] code_67
theorem s_z4z_L2 (g : C_z4z) (n : Nat) : StepOk (E_z4z g) g.N cb_z4z_L2 sh_z4z_L2 (LP_z4z_L2 g) n := by intro ps; unfold LP_z4z_L2; split; exact .inr fun R K => (by kernel_rfl); exact .inl fun R K => rfl
theorem lf_z4z_L2 [Fuel] : LoopFine (E_z4z I_z4z) NN cb_z4z_L2 := fine_loop sh_z4z_L2 (LP_z4z_L2 I_z4z) (by kernel_rfl) ct_z4z (cuts0 (fun _ => rfl) (by kernel_rfl)) (fun ps R K => by unfold LP_z4z_L2; split <;> (try unfold z4z_L2) <;> rfl) (s_z4z_L2 I_z4z)
theorem sm_z4z (g : C_z4z) : Same (SS_z4z (@z4z_ g)) (abody (E_z4z g) Tryz.f67 code_67 1 [0] [.asis] g.N) := by intro args; unfold SS_z4z; split; exact .inr fun R k => (by kernel_rfl); exact .inl fun R k => rfl
theorem ok_z4z [Fuel] : Ok 67 (SS_z4z (@z4z _)) := okF_of std (.cons ok_z12z .nil) ⟨rfl, rfl, by kernel_rfl, rfl, rfl, rfl⟩ (sm_z4z I_z4z) (cutsL (fun _ => rfl) (.cons lf_z4z_L2 .nil) (by kernel_rfl)) Tryz.func67 (by kernel_rfl) (by kernel_rfl)
abbrev T_z20z : Type 1 := List G_Deed → G_Deed → {R : Type} → (Bool → G_Deed → Option R) → Option R
structure C_z20z where
 N : Nat
 z4z : T_z4z
def z20z_ (g : C_z20z) (a1 : List G_Deed) (a2 : G_Deed) {R : Type} (k0 : Bool → G_Deed → Option R) : Option R :=
 (g.z4z a1 a2 (fun r3 r4 => k0 (decide (r3 ≥ 0)) r4))
noncomputable def I_z20z [Fuel] : C_z20z := ⟨NN, @z4z _⟩
noncomputable def z20z [Fuel] : T_z20z := @z20z_ I_z20z
def SS_z20z (g : T_z20z) : Spec A := fun args => match args with | [.d (.sl 35 a1), .fn 59 [.box [.d (.str a2), .d (.int .i64 a3), .d (.int .i64 a4), .d (.int .i64 a5), .d (.int .i64 a6), .d (.int .i64 a7), .d (.str a8), .d (.str a9), .d (.int .i64 a10), .d (.int .i64 a11), .d (.str a12), .d (.str a13), .d (.str a14), .d (.str a15), .d (.int .i64 a16)]]] => fun k => g a1 ⟨a2, a3, a4, a5, ⟨a6, a7, a8, a9, a10, a11, a12, a13⟩, a14, a15, a16⟩ (fun z0 z1 => k (.d (.bool z0)) [.undef, .fn 59 [.box [.d (.str z1.f_Site), .d (.int .i64 z1.f_No), .d (.int .i64 z1.f_At), .d (.int .i64 z1.f_Kind), .d (.int .i64 z1.f_Contact.f_At), .d (.int .i64 z1.f_Contact.f_Mode), .d (.str z1.f_Contact.f_Band), .d (.str z1.f_Contact.f_Call), .d (.int .i64 z1.f_Contact.f_Sent), .d (.int .i64 z1.f_Contact.f_Heard), .d (.str z1.f_Contact.f_Gave), .d (.str z1.f_Contact.f_Got), .d (.str z1.f_Band), .d (.str z1.f_Of), .d (.int .i64 z1.f_Other)]]]) | _ => fun _ => none
noncomputable def code_58 : Code := (Tryz.f58.body).getD .skip
noncomputable def E_z20z (g : C_z20z) : Env A := mkE [(67, SS_z4z g.z4z)] [] [] [] [] [] [] [] [(67, 0)] [1]
theorem sm_z20z (g : C_z20z) : Same (SS_z20z (@z20z_ g)) (abody (E_z20z g) Tryz.f58 code_58 1 [0] [.asis] g.N) := by intro args; unfold SS_z20z; split; exact .inr fun R k => (by kernel_rfl); exact .inl fun R k => rfl
theorem ok_z20z [Fuel] : Ok 58 (SS_z20z (@z20z _)) := okF_of std (.cons ok_z4z .nil) ⟨rfl, rfl, by kernel_rfl, rfl, rfl, rfl⟩ (sm_z20z I_z20z) (cuts0 (fun _ => rfl) (by kernel_rfl)) Tryz.func58 (by kernel_rfl) (by kernel_rfl)
abbrev T_z3z : Type 1 := List G_Deed → {R : Type} → (Int → Option R) → Option R
structure C_z3z where
 N : Nat
 z2z : T_z2z
 z46z : T_z46z
 z20z : T_z20z
def z3z_L4 (g : C_z3z) : Nat → List G_Deed → List G_Deed → Int → Int → {R : Type} → (List G_Deed → Int → Option R) → (List G_Deed → Option R) → Option R
 | 0, _, _, _, _, _, _, _ => none
 | n + 1, v2, v3, v4, v5, _, e0, e1 => (bif (decide (v5 < v4)) then (get_ v3 v5 fun x10 => (g.z46z x10 (fun r11 => (bif (r11 != 0) then e0 v2 r11 else (bif (decide (v5 > 0)) then (get_ v2 (w64 (v5 - 1)) fun x12 => (g.z2z x12 x10 (fun r13 => (bif (decide (r13 ≥ 0)) then e0 v2 7 else z3z_L4 g n v2 v3 v4 (w64 (v5 + 1)) e0 e1)))) else z3z_L4 g n v2 v3 v4 (w64 (v5 + 1)) e0 e1))))) else e1 v2)
def z3z_L13 (g : C_z3z) : Nat → List G_Deed → List G_Deed → Int → Int → {R : Type} → (Int → Option R) → Option R → Option R
 | 0, _, _, _, _, _, _, _ => none
 | n + 1, v17, v18, v19, v20, _, e0, e1 => (bif (decide (v20 < v19)) then (get_ v18 v20 fun x24 => (bif (decide (0 ≤ v20) && decide (v20 ≤ (v17.length : Int))) then (g.z20z (v17.take (v20 : Int).toNat) x24 (fun r25 r26 => (bif r25 then e0 6 else z3z_L13 g n v17 v18 v19 (w64 (v20 + 1)) e0 e1))) else none)) else e1)
def z3z_ (g : C_z3z) (a1 : List G_Deed) {R : Type} (k0 : Int → Option R) : Option R :=
 (bif (decide ((a1.length : Int) > 2000)) then k0 2 else (z3z_L4 g g.N a1 a1 (a1.length : Int) 0 (fun e14 e15 => k0 e15) (fun e16 => (z3z_L13 g g.N e16 e16 (e16.length : Int) 0 (fun e27 => k0 e27) (k0 0)))))
noncomputable def I_z3z [Fuel] : C_z3z := ⟨NN, @z2z _, @z46z _, @z20z _⟩
noncomputable def z3z [Fuel] : T_z3z := @z3z_ I_z3z
def SS_z3z (g : T_z3z) : Spec A := fun args => match args with | [.d (.sl 35 a1)] => fun k => g a1 (fun z0 => k (.d (.int .i64 z0)) [.undef]) | _ => fun _ => none
def sh_z3z_L4 : SSt := mkSh 49 2 [(0, .sl 35), (11, .sl 35), (12, .int .i64), (13, .int .i64)] []
def LP_z3z_L4 (g : C_z3z) (n : Nat) : LPT A := fun ps => match ps with | [.d (.sl 35 p1), .d (.sl 35 p2), .d (.int .i64 p3), .d (.int .i64 p4)] => fun K => z3z_L4 g n p1 p2 p3 p4 (fun z0 z1 => K .ret (mkSt 49 2 [(0, .d (.sl 35 z0)), (2, .d (.int .i64 z1))] [])) (fun z0 => K (.exit 0) (mkSt 49 2 [(0, .d (.sl 35 z0))] [])) | _ => fun _ => none
def sh_z3z_L13 : SSt := mkSh 49 2 [(0, .sl 35), (36, .sl 35), (37, .int .i64), (38, .int .i64)] []
def LP_z3z_L13 (g : C_z3z) (n : Nat) : LPT A := fun ps => match ps with | [.d (.sl 35 p1), .d (.sl 35 p2), .d (.int .i64 p3), .d (.int .i64 p4)] => fun K => z3z_L13 g n p1 p2 p3 p4 (fun z0 => K .ret (mkSt 49 2 [(2, .d (.int .i64 z0))] [])) (K (.exit 2) (mkSt 49 2 [] [])) | _ => fun _ => none
noncomputable def code_13 : Code := (Tryz.f13.body).getD .skip
noncomputable def E_z3z (g : C_z3z) : Env A := mkE [(55, SS_z2z g.z2z), (57, SS_z46z g.z46z), (58, SS_z20z g.z20z)] [(4, [0]), (7, [1])] [(4, ⟨[0, 11, 12, 13], [], [], [], [], [], []⟩), (13, ⟨[0, 36, 37, 38], [], [], [], [], [], []⟩)] [(4, ⟨[0, 2], [], [], [], [], [], []⟩), (13, ⟨[2], [], [], [], [], [], []⟩)] [(4, pieceOf sh_z3z_L4 (LP_z3z_L4 g g.N)), (13, pieceOf sh_z3z_L13 (LP_z3z_L13 g g.N))] [] [] [] [] []
theorem ct_z3z [Fuel] : NatTab (E_z3z I_z3z).C := ct_of (P := Tryz.prog) (T := T) (.cons ok_z2z (.cons ok_z46z (.cons ok_z20z .nil))) (by kernel_rfl)
noncomputable def cb_z3z_L4 : Code := sub [1, 1, 0, 1, 0, 0] code_13
theorem s_z3z_L4 (g : C_z3z) (n : Nat) : StepOk (E_z3z g) g.N cb_z3z_L4 sh_z3z_L4 (LP_z3z_L4 g) n := by intro ps; unfold LP_z3z_L4; split; exact .inr fun R K => (by kernel_rfl); exact .inl fun R K => rfl
theorem lf_z3z_L4 [Fuel] : LoopFine (E_z3z I_z3z) NN cb_z3z_L4 := fine_loop sh_z3z_L4 (LP_z3z_L4 I_z3z) (by kernel_rfl) ct_z3z (cuts0 (fun _ => rfl) (by kernel_rfl)) (fun ps R K => by unfold LP_z3z_L4; split <;> (try unfold z3z_L4) <;> rfl) (s_z3z_L4 I_z3z)
noncomputable def cb_z3z_L13 : Code := sub [1, 1, 1, 0, 1, 0, 0] code_13
theorem s_z3z_L13 (g : C_z3z) (n : Nat) : StepOk (E_z3z g) g.N cb_z3z_L13 sh_z3z_L13 (LP_z3z_L13 g) n := by intro ps; unfold LP_z3z_L13; split; exact .inr fun R K => (by kernel_rfl); exact .inl fun R K => rfl
theorem lf_z3z_L13 [Fuel] : LoopFine (E_z3z I_z3z) NN cb_z3z_L13 := fine_loop sh_z3z_L13 (LP_z3z_L13 I_z3z) (by kernel_rfl) ct_z3z (cuts0 (fun _ => rfl) (by kernel_rfl)) (fun ps R K => by unfold LP_z3z_L13; split <;> (try unfold z3z_L13) <;> rfl) (s_z3z_L13 I_z3z)
theorem sm_z3z (g : C_z3z) : Same (SS_z3z (@z3z_ g)) (abody (E_z3z g) Tryz.f13 code_13 2 [] [.asis] g.N) := by intro args; unfold SS_z3z; split; exact .inr fun R k => (by kernel_rfl); exact .inl fun R k => rfl
theorem ok_z3z [Fuel] : Ok 13 (SS_z3z (@z3z _)) := okF_of std (.cons ok_z2z (.cons ok_z46z (.cons ok_z20z .nil))) ⟨rfl, rfl, by kernel_rfl, rfl, rfl, rfl⟩ (sm_z3z I_z3z) (cutsL (fun _ => rfl) (.cons lf_z3z_L4 (.cons lf_z3z_L13 .nil)) (by kernel_rfl)) Tryz.func13 (by kernel_rfl) (by kernel_rfl)
abbrev T_kit_IsKey : Type 1 := List UInt8 → {R : Type} → (Bool → Option R) → Option R
structure C_kit_IsKey where
 N : Nat
 strings_IndexByte : T_strings_IndexByte
 strings_Trim : T_strings_Trim
def kit_IsKey_ (g : C_kit_IsKey) (a1 : List UInt8) {R : Type} (k0 : Bool → Option R) : Option R :=
 (bif (!(a1 == [])) then (bif (decide ((a1.length : Int) ≤ 40)) then (at_ a1 0 fun x2 => (g.strings_IndexByte [97, 98, 99, 100, 101, 102, 103, 104, 105, 106, 107, 108, 109, 110, 111, 112, 113, 114, 115, 116, 117, 118, 119, 120, 121, 122] (x2.toNat : Int) (fun r3 => (bif (decide (r3 ≥ 0)) then (g.strings_Trim a1 [97, 98, 99, 100, 101, 102, 103, 104, 105, 106, 107, 108, 109, 110, 111, 112, 113, 114, 115, 116, 117, 118, 119, 120, 121, 122, 48, 49, 50, 51, 52, 53, 54, 55, 56, 57, 45, 95] (fun r4 => k0 (r4 == []))) else k0 false)))) else k0 false) else k0 false)
noncomputable def I_kit_IsKey [Fuel] : C_kit_IsKey := ⟨NN, @strings_IndexByte _, @strings_Trim _⟩
noncomputable def kit_IsKey [Fuel] : T_kit_IsKey := @kit_IsKey_ I_kit_IsKey
def SS_kit_IsKey (g : T_kit_IsKey) : Spec A := fun args => match args with | [.d (.str a1)] => fun k => g a1 (fun z0 => k (.d (.bool z0)) [.undef]) | _ => fun _ => none
noncomputable def code_116 : Code := (Tryz.f116.body).getD .skip
noncomputable def E_kit_IsKey (g : C_kit_IsKey) : Env A := mkE [(173, SS_strings_IndexByte g.strings_IndexByte), (174, SS_strings_Trim g.strings_Trim)] [] [] [] [] [] [] [] [] []
theorem sm_kit_IsKey (g : C_kit_IsKey) : Same (SS_kit_IsKey (@kit_IsKey_ g)) (abody (E_kit_IsKey g) Tryz.f116 code_116 0 [] [.asis] g.N) := by intro args; unfold SS_kit_IsKey; split; exact .inr fun R k => (by kernel_rfl); exact .inl fun R k => rfl
theorem ok_kit_IsKey [Fuel] : Ok 116 (SS_kit_IsKey (@kit_IsKey _)) := okF_of std (.cons ok_strings_IndexByte (.cons ok_strings_Trim .nil)) ⟨rfl, rfl, by kernel_rfl, rfl, rfl, rfl⟩ (sm_kit_IsKey I_kit_IsKey) (cuts0 (fun _ => rfl) (by kernel_rfl)) Tryz.func116 (by kernel_rfl) (by kernel_rfl)
abbrev T_z43z : Type 1 := Int → Int → Int → {R : Type} → (Bool → Option R) → Option R
def z43z_ (g : Nat) (a1 a2 a3 : Int) {R : Type} (k0 : Bool → Option R) : Option R :=
 (bif (decide (a1 < a2)) then k0 true else k0 (decide (a1 > a3)))
noncomputable def z43z [Fuel] : T_z43z := @z43z_ NN
def SS_z43z (g : T_z43z) : Spec A := fun args => match args with | [.d (.int .i64 a1), .d (.int .i64 a2), .d (.int .i64 a3)] => fun k => g a1 a2 a3 (fun z0 => k (.d (.bool z0)) [.undef, .undef, .undef]) | _ => fun _ => none
noncomputable def code_117 : Code := (Tryz.f117.body).getD .skip
noncomputable def E_z43z (g : Nat) : Env A := mkE [] [] [] [] [] [] [] [] [] []
theorem sm_z43z (g : Nat) : Same (SS_z43z (@z43z_ g)) (abody (E_z43z g) Tryz.f117 code_117 0 [] [.asis] g) := by intro args; unfold SS_z43z; split; exact .inr fun R k => (by kernel_rfl); exact .inl fun R k => rfl
theorem ok_z43z [Fuel] : Ok 117 (SS_z43z (@z43z _)) := okF_of std .nil ⟨rfl, rfl, by kernel_rfl, rfl, rfl, rfl⟩ (sm_z43z NN) (cuts0 (fun _ => rfl) (by kernel_rfl)) Tryz.func117 (by kernel_rfl) (by kernel_rfl)
abbrev T_z47z : Type 1 := Int → {R : Type} → (Bool → Option R) → Option R
structure C_z47z where
 N : Nat
 z43z : T_z43z
def z47z_ (g : C_z47z) (a1 : Int) {R : Type} (k0 : Bool → Option R) : Option R :=
 (g.z43z a1 0 345686399999 (fun r2 => k0 (!r2)))
noncomputable def I_z47z [Fuel] : C_z47z := ⟨NN, @z43z _⟩
noncomputable def z47z [Fuel] : T_z47z := @z47z_ I_z47z
def SS_z47z (g : T_z47z) : Spec A := fun args => match args with | [.d (.int .i64 a1)] => fun k => g a1 (fun z0 => k (.d (.bool z0)) [.undef]) | _ => fun _ => none
noncomputable def code_94 : Code := (Tryz.f94.body).getD .skip
noncomputable def E_z47z (g : C_z47z) : Env A := mkE [(117, SS_z43z g.z43z)] [] [] [] [] [] [] [] [] []
theorem sm_z47z (g : C_z47z) : Same (SS_z47z (@z47z_ g)) (abody (E_z47z g) Tryz.f94 code_94 0 [] [.asis] g.N) := by intro args; unfold SS_z47z; split; exact .inr fun R k => (by kernel_rfl); exact .inl fun R k => rfl
theorem ok_z47z [Fuel] : Ok 94 (SS_z47z (@z47z _)) := okF_of std (.cons ok_z43z .nil) ⟨rfl, rfl, by kernel_rfl, rfl, rfl, rfl⟩ (sm_z47z I_z47z) (cuts0 (fun _ => rfl) (by kernel_rfl)) Tryz.func94 (by kernel_rfl) (by kernel_rfl)
abbrev T_kit_IsMode : Type 1 := Int → {R : Type} → (Bool → Option R) → Option R
structure C_kit_IsMode where
 N : Nat
 z43z : T_z43z
def kit_IsMode_ (g : C_kit_IsMode) (a1 : Int) {R : Type} (k0 : Bool → Option R) : Option R :=
 (g.z43z a1 1 3 (fun r2 => k0 (!r2)))
noncomputable def I_kit_IsMode [Fuel] : C_kit_IsMode := ⟨NN, @z43z _⟩
noncomputable def kit_IsMode [Fuel] : T_kit_IsMode := @kit_IsMode_ I_kit_IsMode
def SS_kit_IsMode (g : T_kit_IsMode) : Spec A := fun args => match args with | [.d (.int .i64 a1)] => fun k => g a1 (fun z0 => k (.d (.bool z0)) [.undef]) | _ => fun _ => none
noncomputable def code_121 : Code := (Tryz.f121.body).getD .skip
noncomputable def E_kit_IsMode (g : C_kit_IsMode) : Env A := mkE [(117, SS_z43z g.z43z)] [] [] [] [] [] [] [] [] []
theorem sm_kit_IsMode (g : C_kit_IsMode) : Same (SS_kit_IsMode (@kit_IsMode_ g)) (abody (E_kit_IsMode g) Tryz.f121 code_121 0 [] [.asis] g.N) := by intro args; unfold SS_kit_IsMode; split; exact .inr fun R k => (by kernel_rfl); exact .inl fun R k => rfl
theorem ok_kit_IsMode [Fuel] : Ok 121 (SS_kit_IsMode (@kit_IsMode _)) := okF_of std (.cons ok_z43z .nil) ⟨rfl, rfl, by kernel_rfl, rfl, rfl, rfl⟩ (sm_kit_IsMode I_kit_IsMode) (cuts0 (fun _ => rfl) (by kernel_rfl)) Tryz.func121 (by kernel_rfl) (by kernel_rfl)
abbrev T_z71z : Type 1 := Int → {R : Type} → (Bool → Option R) → Option R
def z71z_ (g : Nat) (a1 : Int) {R : Type} (k0 : Bool → Option R) : Option R :=
 (bif (decide (a1 ≥ 97)) then k0 (decide (a1 ≤ 122)) else k0 false)
noncomputable def z71z [Fuel] : T_z71z := @z71z_ NN
def SS_z71z (g : T_z71z) : Spec A := fun args => match args with | [.d (.int .u8 a1)] => fun k => g a1 (fun z0 => k (.d (.bool z0)) [.undef]) | _ => fun _ => none
noncomputable def code_309 : Code := (Tryz.f309.body).getD .skip
noncomputable def E_z71z (g : Nat) : Env A := mkE [] [] [] [] [] [] [] [] [] []
theorem sm_z71z (g : Nat) : Same (SS_z71z (@z71z_ g)) (abody (E_z71z g) Tryz.f309 code_309 0 [] [.asis] g) := by intro args; unfold SS_z71z; split; exact .inr fun R k => (by kernel_rfl); exact .inl fun R k => rfl
theorem ok_z71z [Fuel] : Ok 309 (SS_z71z (@z71z _)) := okF_of std .nil ⟨rfl, rfl, by kernel_rfl, rfl, rfl, rfl⟩ (sm_z71z NN) (cuts0 (fun _ => rfl) (by kernel_rfl)) Tryz.func309 (by kernel_rfl) (by kernel_rfl)
abbrev T_z69z : Type 1 := Int → {R : Type} → (Bool → Option R) → Option R
def z69z_ (g : Nat) (a1 : Int) {R : Type} (k0 : Bool → Option R) : Option R :=
 (bif (decide (a1 ≥ 48)) then k0 (decide (a1 ≤ 57)) else k0 false)
noncomputable def z69z [Fuel] : T_z69z := @z69z_ NN
def SS_z69z (g : T_z69z) : Spec A := fun args => match args with | [.d (.int .u8 a1)] => fun k => g a1 (fun z0 => k (.d (.bool z0)) [.undef]) | _ => fun _ => none
noncomputable def code_282 : Code := (Tryz.f282.body).getD .skip
noncomputable def E_z69z (g : Nat) : Env A := mkE [] [] [] [] [] [] [] [] [] []
theorem sm_z69z (g : Nat) : Same (SS_z69z (@z69z_ g)) (abody (E_z69z g) Tryz.f282 code_282 0 [] [.asis] g) := by intro args; unfold SS_z69z; split; exact .inr fun R k => (by kernel_rfl); exact .inl fun R k => rfl
theorem ok_z69z [Fuel] : Ok 282 (SS_z69z (@z69z _)) := okF_of std .nil ⟨rfl, rfl, by kernel_rfl, rfl, rfl, rfl⟩ (sm_z69z NN) (cuts0 (fun _ => rfl) (by kernel_rfl)) Tryz.func282 (by kernel_rfl) (by kernel_rfl)
abbrev T_z38z : Type 1 := List UInt8 → {R : Type} → (Int → Bool → Option R) → Option R
structure C_z38z where
 N : Nat
 z69z : T_z69z
 z71z : T_z71z
def z38z_L2 (g : C_z38z) : Nat → List UInt8 → Int → Int → Int → {R : Type} → (Int → Bool → Option R) → (Int → Option R) → Option R
 | 0, _, _, _, _, _, _, _ => none
 | n + 1, v2, v3, v4, v5, _, e0, e1 => (bif (decide (v5 < v4)) then (get_ v2 v5 fun x10 => (g.z71z (x10.toNat : Int) (fun r11 => (bif r11 then z38z_L2 g n v2 (w64 (v3 + 1)) v4 (w64 (v5 + 1)) e0 e1 else (get_ v2 v5 fun x12 => (g.z69z (x12.toNat : Int) (fun r13 => (bif (!r13) then e0 0 false else z38z_L2 g n v2 v3 v4 (w64 (v5 + 1)) e0 e1)))))))) else e1 v3)
def z38z_ (g : C_z38z) (a1 : List UInt8) {R : Type} (k0 : Int → Bool → Option R) : Option R :=
 (z38z_L2 g g.N a1 0 (a1.length : Int) 0 (fun e14 e15 => k0 e14 e15) (fun e16 => k0 e16 true))
noncomputable def I_z38z [Fuel] : C_z38z := ⟨NN, @z69z _, @z71z _⟩
noncomputable def z38z [Fuel] : T_z38z := @z38z_ I_z38z
def SS_z38z (g : T_z38z) : Spec A := fun args => match args with | [.d (.str a1)] => fun k => g a1 (fun z0 z1 => k (.tup [.d (.int .i64 z0), .d (.bool z1)]) [.undef]) | _ => fun _ => none
def sh_z38z_L2 : SSt := mkSh 25 0 [(0, .str), (2, .int .i64), (6, .int .i64), (7, .int .i64)] []
def LP_z38z_L2 (g : C_z38z) (n : Nat) : LPT A := fun ps => match ps with | [.d (.str p1), .d (.int .i64 p2), .d (.int .i64 p3), .d (.int .i64 p4)] => fun K => z38z_L2 g n p1 p2 p3 p4 (fun z0 z1 => K .ret (mkSt 25 0 [(2, .d (.int .i64 z0)), (3, .d (.bool z1))] [])) (fun z0 => K (.exit 0) (mkSt 25 0 [(2, .d (.int .i64 z0))] [])) | _ => fun _ => none
noncomputable def code_281 : Code := (Tryz.f281.body).getD .skip
noncomputable def E_z38z (g : C_z38z) : Env A := mkE [(282, SS_z69z g.z69z), (309, SS_z71z g.z71z)] [] [(2, ⟨[0, 2, 6, 7], [], [], [], [], [], []⟩)] [(2, ⟨[2, 3], [], [], [], [], [], []⟩)] [(2, pieceOf sh_z38z_L2 (LP_z38z_L2 g g.N))] [] [] [] [] []
theorem ct_z38z [Fuel] : NatTab (E_z38z I_z38z).C := ct_of (P := Tryz.prog) (T := T) (.cons ok_z69z (.cons ok_z71z .nil)) (by kernel_rfl)
noncomputable def cb_z38z_L2 : Code := sub [1, 0, 1, 0, 0] code_281
theorem s_z38z_L2 (g : C_z38z) (n : Nat) : StepOk (E_z38z g) g.N cb_z38z_L2 sh_z38z_L2 (LP_z38z_L2 g) n := by intro ps; unfold LP_z38z_L2; split; exact .inr fun R K => (by kernel_rfl); exact .inl fun R K => rfl
theorem lf_z38z_L2 [Fuel] : LoopFine (E_z38z I_z38z) NN cb_z38z_L2 := fine_loop sh_z38z_L2 (LP_z38z_L2 I_z38z) (by kernel_rfl) ct_z38z (cuts0 (fun _ => rfl) (by kernel_rfl)) (fun ps R K => by unfold LP_z38z_L2; split <;> (try unfold z38z_L2) <;> rfl) (s_z38z_L2 I_z38z)
theorem sm_z38z (g : C_z38z) : Same (SS_z38z (@z38z_ g)) (abody (E_z38z g) Tryz.f281 code_281 0 [] [.asis, .asis] g.N) := by intro args; unfold SS_z38z; split; exact .inr fun R k => (by kernel_rfl); exact .inl fun R k => rfl
theorem ok_z38z [Fuel] : Ok 281 (SS_z38z (@z38z _)) := okF_of std (.cons ok_z69z (.cons ok_z71z .nil)) ⟨rfl, rfl, by kernel_rfl, rfl, rfl, rfl⟩ (sm_z38z I_z38z) (cutsL (fun _ => rfl) (.cons lf_z38z_L2 .nil) (by kernel_rfl)) Tryz.func281 (by kernel_rfl) (by kernel_rfl)
abbrev T_call_split : Type 1 := List UInt8 → {R : Type} → (Int → Bool → Option R) → Option R
structure C_call_split where
 N : Nat
 z10z : T_z10z
 z38z : T_z38z
def call_split_ (g : C_call_split) (a1 : List UInt8) {R : Type} (k0 : Int → Bool → Option R) : Option R :=
 (g.z38z a1 (fun r2 r3 => (bif (!r3) then k0 0 false else (bif (decide ((a1.length : Int) > 10)) then k0 0 false else (g.z10z a1 [48, 49, 50, 51, 52, 53, 54, 55, 56, 57] (fun r4 => (bif (decide (r4 < 1)) then k0 0 false else (bif (decide (r4 > 3)) then k0 0 false else (bif (decide ((w64 ((w64 ((a1.length : Int) - r4)) - 1)) < 1)) then k0 0 false else (bif (decide ((w64 ((w64 ((a1.length : Int) - r4)) - 1)) > 4)) then k0 0 false else (bif (decide (0 ≤ r4) && decide (r4 ≤ (a1.length : Int))) then (g.z38z (a1.take (r4 : Int).toNat) (fun r5 r6 => k0 r4 (decide (r5 > 0)))) else none)))))))))))
noncomputable def I_call_split [Fuel] : C_call_split := ⟨NN, @z10z _, @z38z _⟩
noncomputable def call_split [Fuel] : T_call_split := @call_split_ I_call_split
def SS_call_split (g : T_call_split) : Spec A := fun args => match args with | [.d (.str a1)] => fun k => g a1 (fun z0 z1 => k (.tup [.d (.int .i64 z0), .d (.bool z1)]) [.undef]) | _ => fun _ => none
noncomputable def code_280 : Code := (Tryz.f280.body).getD .skip
noncomputable def E_call_split (g : C_call_split) : Env A := mkE [(236, SS_z10z g.z10z), (281, SS_z38z g.z38z)] [] [] [] [] [] [] [] [] []
theorem sm_call_split (g : C_call_split) : Same (SS_call_split (@call_split_ g)) (abody (E_call_split g) Tryz.f280 code_280 0 [] [.asis, .asis] g.N) := by intro args; unfold SS_call_split; split; exact .inr fun R k => (by kernel_rfl); exact .inl fun R k => rfl
theorem ok_call_split [Fuel] : Ok 280 (SS_call_split (@call_split _)) := okF_of std (.cons ok_z10z (.cons ok_z38z .nil)) ⟨rfl, rfl, by kernel_rfl, rfl, rfl, rfl⟩ (sm_call_split I_call_split) (cuts0 (fun _ => rfl) (by kernel_rfl)) Tryz.func280 (by kernel_rfl) (by kernel_rfl)
abbrev T_call_based : Type 1 := List UInt8 → {R : Type} → (G_Parts → Bool → Option R) → Option R
structure C_call_based where
 N : Nat
 call_split : T_call_split
def call_based_ (g : C_call_based) (a1 : List UInt8) {R : Type} (k0 : G_Parts → Bool → Option R) : Option R :=
 (g.call_split a1 (fun r2 r3 => (bif (!r3) then k0 (⟨[], [], [], 0, []⟩ : G_Parts) false else (bif (decide (0 ≤ (w64 (r2 + 1))) && decide ((w64 (r2 + 1)) ≤ (a1.length : Int))) then (bif (decide (0 ≤ (w64 (r2 + 1))) && decide ((w64 (r2 + 1)) ≤ (a1.length : Int))) then k0 (⟨a1, (a1.take ((w64 (r2 + 1)) : Int).toNat), (a1.drop ((w64 (r2 + 1)) : Int).toNat), 0, []⟩ : G_Parts) true else none) else none))))
noncomputable def I_call_based [Fuel] : C_call_based := ⟨NN, @call_split _⟩
noncomputable def call_based [Fuel] : T_call_based := @call_based_ I_call_based
def SS_call_based (g : T_call_based) : Spec A := fun args => match args with | [.d (.str a1)] => fun k => g a1 (fun z0 z1 => k (.tup [.agg [.d (.str z0.f_Base), .d (.str z0.f_Prefix), .d (.str z0.f_Suffix), .d (.int .i64 z0.f_Kind), .d (.str z0.f_Added)], .d (.bool z1)]) [.undef]) | _ => fun _ => none
noncomputable def code_232 : Code := (Tryz.f232.body).getD .skip
noncomputable def E_call_based (g : C_call_based) : Env A := mkE [(280, SS_call_split g.call_split)] [(2, [0])] [] [] [] [] [] [] [] []
theorem sm_call_based (g : C_call_based) : Same (SS_call_based (@call_based_ g)) (abody (E_call_based g) Tryz.f232 code_232 1 [] [.asis, .asis] g.N) := by intro args; unfold SS_call_based; split; exact .inr fun R k => (by kernel_rfl); exact .inl fun R k => rfl
theorem ok_call_based [Fuel] : Ok 232 (SS_call_based (@call_based _)) := okF_of std (.cons ok_call_split .nil) ⟨rfl, rfl, by kernel_rfl, rfl, rfl, rfl⟩ (sm_call_based I_call_based) (cuts0 (fun _ => rfl) (by kernel_rfl)) Tryz.func232 (by kernel_rfl) (by kernel_rfl)
abbrev T_z65z : Type 1 := List UInt8 → {R : Type} → (Bool → Option R) → Option R
structure C_z65z where
 N : Nat
 z38z : T_z38z
def z65z_ (g : C_z65z) (a1 : List UInt8) {R : Type} (k0 : Bool → Option R) : Option R :=
 (g.z38z a1 (fun r2 r3 => (bif r3 then (bif (decide (r2 > 0)) then k0 (decide ((a1.length : Int) ≤ 4)) else k0 false) else k0 false)))
noncomputable def I_z65z [Fuel] : C_z65z := ⟨NN, @z38z _⟩
noncomputable def z65z [Fuel] : T_z65z := @z65z_ I_z65z
def SS_z65z (g : T_z65z) : Spec A := fun args => match args with | [.d (.str a1)] => fun k => g a1 (fun z0 => k (.d (.bool z0)) [.undef]) | _ => fun _ => none
noncomputable def code_233 : Code := (Tryz.f233.body).getD .skip
noncomputable def E_z65z (g : C_z65z) : Env A := mkE [(281, SS_z38z g.z38z)] [] [] [] [] [] [] [] [] []
theorem sm_z65z (g : C_z65z) : Same (SS_z65z (@z65z_ g)) (abody (E_z65z g) Tryz.f233 code_233 0 [] [.asis] g.N) := by intro args; unfold SS_z65z; split; exact .inr fun R k => (by kernel_rfl); exact .inl fun R k => rfl
theorem ok_z65z [Fuel] : Ok 233 (SS_z65z (@z65z _)) := okF_of std (.cons ok_z38z .nil) ⟨rfl, rfl, by kernel_rfl, rfl, rfl, rfl⟩ (sm_z65z I_z65z) (cuts0 (fun _ => rfl) (by kernel_rfl)) Tryz.func233 (by kernel_rfl) (by kernel_rfl)
abbrev T_call_tail : Type 1 := List UInt8 → {R : Type} → (Int → List UInt8 → Bool → Option R) → Option R
structure C_call_tail where
 N : Nat
 z65z : T_z65z
 z69z : T_z69z
def call_tail_ (g : C_call_tail) (a1 : List UInt8) {R : Type} (k0 : Int → List UInt8 → Bool → Option R) : Option R :=
 (bif (a1 == [112]) then k0 3 [] true else (bif (a1 == [109]) then k0 4 [] true else (bif (a1 == [109, 109]) then k0 5 [] true else (bif (a1 == [97, 109]) then k0 6 [] true else (bif ((a1.length : Int) == 1) then (at_ a1 0 fun x2 => (g.z69z (x2.toNat : Int) (fun r3 => (bif r3 then k0 2 a1 true else (g.z65z a1 (fun r4 => k0 1 a1 r4)))))) else (g.z65z a1 (fun r5 => k0 1 a1 r5)))))))
noncomputable def I_call_tail [Fuel] : C_call_tail := ⟨NN, @z65z _, @z69z _⟩
noncomputable def call_tail [Fuel] : T_call_tail := @call_tail_ I_call_tail
def SS_call_tail (g : T_call_tail) : Spec A := fun args => match args with | [.d (.str a1)] => fun k => g a1 (fun z0 z1 z2 => k (.tup [.d (.int .i64 z0), .d (.str z1), .d (.bool z2)]) [.undef]) | _ => fun _ => none
noncomputable def code_234 : Code := (Tryz.f234.body).getD .skip
noncomputable def E_call_tail (g : C_call_tail) : Env A := mkE [(233, SS_z65z g.z65z), (282, SS_z69z g.z69z)] [] [] [] [] [] [] [] [] []
theorem sm_call_tail (g : C_call_tail) : Same (SS_call_tail (@call_tail_ g)) (abody (E_call_tail g) Tryz.f234 code_234 0 [] [.asis, .asis, .asis] g.N) := by intro args; unfold SS_call_tail; split; exact .inr fun R k => (by kernel_rfl); exact .inl fun R k => rfl
theorem ok_call_tail [Fuel] : Ok 234 (SS_call_tail (@call_tail _)) := okF_of std (.cons ok_z65z (.cons ok_z69z .nil)) ⟨rfl, rfl, by kernel_rfl, rfl, rfl, rfl⟩ (sm_call_tail I_call_tail) (cuts0 (fun _ => rfl) (by kernel_rfl)) Tryz.func234 (by kernel_rfl) (by kernel_rfl)
abbrev T_call_Parts : Type 1 := List UInt8 → {R : Type} → (G_Parts → Bool → Option R) → Option R
structure C_call_Parts where
 N : Nat
 z67z : T_z67z
 call_based : T_call_based
 z65z : T_z65z
 call_tail : T_call_tail
def call_Parts_ (g : C_call_Parts) (a1 : List UInt8) {R : Type} (k0 : G_Parts → Bool → Option R) : Option R :=
 (bif (decide ((a1.length : Int) > 14)) then k0 (⟨[], [], [], 0, []⟩ : G_Parts) false else (g.call_based a1 (fun r2 r3 => (bif r3 then k0 r2 true else (g.z67z a1 [47] (fun r4 r5 r6 => (bif (!r6) then k0 (⟨[], [], [], 0, []⟩ : G_Parts) false else (g.call_based r5 (fun r7 r8 => (bif r8 then (g.z65z r4 (fun r9 => (bif r9 then k0 (⟨r7.f_Base, r7.f_Prefix, r7.f_Suffix, 1, r4⟩ : G_Parts) true else (g.call_based r4 (fun r10 r11 => (g.call_tail r5 (fun r12 r13 r14 => (bif (!r11) then k0 (⟨[], [], [], 0, []⟩ : G_Parts) false else (bif (!r14) then k0 (⟨[], [], [], 0, []⟩ : G_Parts) false else k0 (⟨r10.f_Base, r10.f_Prefix, r10.f_Suffix, r12, r13⟩ : G_Parts) true))))))))) else (g.call_based r4 (fun r15 r16 => (g.call_tail r5 (fun r17 r18 r19 => (bif (!r16) then k0 (⟨[], [], [], 0, []⟩ : G_Parts) false else (bif (!r19) then k0 (⟨[], [], [], 0, []⟩ : G_Parts) false else k0 (⟨r15.f_Base, r15.f_Prefix, r15.f_Suffix, r17, r18⟩ : G_Parts) true))))))))))))))))
noncomputable def I_call_Parts [Fuel] : C_call_Parts := ⟨NN, @z67z _, @call_based _, @z65z _, @call_tail _⟩
noncomputable def call_Parts [Fuel] : T_call_Parts := @call_Parts_ I_call_Parts
def SS_call_Parts (g : T_call_Parts) : Spec A := fun args => match args with | [.d (.str a1)] => fun k => g a1 (fun z0 z1 => k (.tup [.agg [.d (.str z0.f_Base), .d (.str z0.f_Prefix), .d (.str z0.f_Suffix), .d (.int .i64 z0.f_Kind), .d (.str z0.f_Added)], .d (.bool z1)]) [.undef]) | _ => fun _ => none
noncomputable def code_178 : Code := (Tryz.f178.body).getD .skip
noncomputable def E_call_Parts (g : C_call_Parts) : Env A := mkE [(180, SS_z67z g.z67z), (232, SS_call_based g.call_based), (233, SS_z65z g.z65z), (234, SS_call_tail g.call_tail)] [(2, [0]), (4, [1]), (9, [2]), (11, [3])] [] [] [] [] [] [] [] []
theorem sm_call_Parts (g : C_call_Parts) : Same (SS_call_Parts (@call_Parts_ g)) (abody (E_call_Parts g) Tryz.f178 code_178 4 [] [.asis, .asis] g.N) := by intro args; unfold SS_call_Parts; split; exact .inr fun R k => (by kernel_rfl); exact .inl fun R k => rfl
theorem ok_call_Parts [Fuel] : Ok 178 (SS_call_Parts (@call_Parts _)) := okF_of std (.cons ok_z67z (.cons ok_call_based (.cons ok_z65z (.cons ok_call_tail .nil)))) ⟨rfl, rfl, by kernel_rfl, rfl, rfl, rfl⟩ (sm_call_Parts I_call_Parts) (cuts0 (fun _ => rfl) (by kernel_rfl)) Tryz.func178 (by kernel_rfl) (by kernel_rfl)
abbrev T_call_Is : Type 1 := List UInt8 → {R : Type} → (Bool → Option R) → Option R
structure C_call_Is where
 N : Nat
 call_Parts : T_call_Parts
def call_Is_ (g : C_call_Is) (a1 : List UInt8) {R : Type} (k0 : Bool → Option R) : Option R :=
 (g.call_Parts a1 (fun r2 r3 => k0 r3))
noncomputable def I_call_Is [Fuel] : C_call_Is := ⟨NN, @call_Parts _⟩
noncomputable def call_Is [Fuel] : T_call_Is := @call_Is_ I_call_Is
def SS_call_Is (g : T_call_Is) : Spec A := fun args => match args with | [.d (.str a1)] => fun k => g a1 (fun z0 => k (.d (.bool z0)) [.undef]) | _ => fun _ => none
noncomputable def code_122 : Code := (Tryz.f122.body).getD .skip
noncomputable def E_call_Is (g : C_call_Is) : Env A := mkE [(178, SS_call_Parts g.call_Parts)] [(3, [0])] [] [] [] [] [] [] [] []
theorem sm_call_Is (g : C_call_Is) : Same (SS_call_Is (@call_Is_ g)) (abody (E_call_Is g) Tryz.f122 code_122 1 [] [.asis] g.N) := by intro args; unfold SS_call_Is; split; exact .inr fun R k => (by kernel_rfl); exact .inl fun R k => rfl
theorem ok_call_Is [Fuel] : Ok 122 (SS_call_Is (@call_Is _)) := okF_of std (.cons ok_call_Parts .nil) ⟨rfl, rfl, by kernel_rfl, rfl, rfl, rfl⟩ (sm_call_Is I_call_Is) (cuts0 (fun _ => rfl) (by kernel_rfl)) Tryz.func122 (by kernel_rfl) (by kernel_rfl)
end Go.Am
