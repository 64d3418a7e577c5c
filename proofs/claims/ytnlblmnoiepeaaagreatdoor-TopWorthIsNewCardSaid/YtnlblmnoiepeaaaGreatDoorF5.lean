/- The functions of the program as Lean functions, each shown to be what the code computes, part 5. No condition: lemmas for the claim. -/
import Derived.Test.YtnlblmnoiepeaaaGreatDoorF0
import Derived.Test.YtnlblmnoiepeaaaGreatDoorFSh
import Derived.Test.YtnlblmnoiepeaaaGreatDoorF1
import Derived.Test.YtnlblmnoiepeaaaGreatDoorF2
import Derived.Test.YtnlblmnoiepeaaaGreatDoorF3
import Derived.Test.YtnlblmnoiepeaaaGreatDoorF4
set_option linter.unusedVariables false
set_option maxRecDepth 100000
namespace Go.Am
open Go Go.Proofs
abbrev T_z11z : Type 1 := G_Stream → Int → {R : Type} → (List G_Contact → G_Stream → Option R) → Option R
structure C_z11z where
 N : Nat
 z60z : T_z60z
 z64z : T_z64z
 z25z : T_z25z
 z6z : T_z6z
def z11z_L4 (g : C_z11z) : Nat → Int → Int → Int → G_Stream → List G_Contact → {R : Type} → (G_Stream → List G_Contact → Option R) → Option R
 | 0, _, _, _, _, _, _, _ => none
 | n + 1, v3, v4, v5, v6, v7, _, e0 => (bif (decide (v5 < v4)) then (g.z60z v6 [0, 1, 10, 50, 1000, 40000, 1500000] (fun r12 r13 => (g.z64z r13 (w64 (v3 + r12)) (fun r14 r15 => (bif (decide ((v7.length + [r14].length) * 96 ≤ roomBytes')) then z11z_L4 g n (w64 (v3 + r12)) v4 (w64 (v5 + 1)) r15 (v7 ++ [r14]) e0 else none))))) else e0 v6 v7)
def z11z_ (g : C_z11z) (a1 : G_Stream) (a2 : Int) {R : Type} (k0 : List G_Contact → G_Stream → Option R) : Option R :=
 (z11z_L4 g g.N 0 a2 0 a1 [] (fun e16 e17 => (g.z25z e17 (fun r18 => (g.z6z r18 (fun r19 => k0 r19 e16))))))
noncomputable def I_z11z [Fuel] : C_z11z := ⟨NN, @z60z _, @z64z _, @z25z _, @z6z _⟩
noncomputable def z11z [Fuel] : T_z11z := @z11z_ I_z11z
def SS_z11z (g : T_z11z) : Spec A := fun args => match args with | [.box [.d (.sl 3 a1), .d (.int .i64 a2)], .d (.int .i64 a3)] => fun k => g ⟨a1, a2⟩ a3 (fun z0 z1 => k (.arr 38 z0) [.box [.d (.sl 3 z1.f_L), .d (.int .i64 z1.f_at)], .undef]) | _ => fun _ => none
def sh_z11z_L4 : SSt := mkSh 26 6 [(0, .ptr 0 0), (5, .own 38 1), (6, .int .i64), (7, .int .i64), (8, .int .i64)] [(0, .box [.sl 3, .int .i64]), (1, .row 38)]
def LP_z11z_L4 (g : C_z11z) (n : Nat) : LPT A := fun ps => match ps with | [.d (.int .i64 p1), .d (.int .i64 p2), .d (.int .i64 p3), .d (.sl 3 p4), .d (.int .i64 p5), .d (.sl 38 p6)] => fun K => z11z_L4 g n p1 p2 p3 ⟨p4, p5⟩ p6 (fun z0 z1 => K (.exit 0) (mkSt 26 6 [(0, .ptr 0 0), (5, .own 38 1)] [(0, some (.box [.d (.sl 3 z0.f_L), .d (.int .i64 z0.f_at)])), (1, some (.row 38 z1))])) | _ => fun _ => none
noncomputable def code_29 : Code := (Tryz.f29.body).getD .skip
noncomputable def E_z11z (g : C_z11z) : Env A := mkE [(55, SS_z60z g.z60z), (65, SS_z64z g.z64z), (66, SS_z25z g.z25z), (68, SS_z6z g.z6z)] [(12, [2]), (19, [3]), (20, [4]), (25, [5])] [(4, ⟨[0, 5, 6, 7, 8], [(5, 38, 1)], [0], [], [], [], []⟩)] [(4, ⟨[0, 5], [], [0, 1], [], [], [], []⟩)] [(4, pieceOf sh_z11z_L4 (LP_z11z_L4 g g.N))] [] [] [] [(66, 0), (68, 0)] [0]
theorem ct_z11z [Fuel] : NatTab (E_z11z I_z11z).C := ct_of (P := Tryz.prog) (T := T) (.cons ok_z60z (.cons ok_z64z (.cons ok_z25z (.cons ok_z6z .nil)))) (by kernel_rfl)
noncomputable def cb_z11z_L4 : Code := sub [1, 1, 1, 0, 1, 0, 0] code_29
theorem s_z11z_L4 (g : C_z11z) (n : Nat) : StepOk (E_z11z g) g.N cb_z11z_L4 sh_z11z_L4 (LP_z11z_L4 g) n := by intro ps; unfold LP_z11z_L4; split; exact .inr fun R K => (by kernel_rfl); exact .inl fun R K => rfl
theorem lf_z11z_L4 [Fuel] : LoopFine (E_z11z I_z11z) NN cb_z11z_L4 := fine_loop sh_z11z_L4 (LP_z11z_L4 I_z11z) (by kernel_rfl) ct_z11z (cuts0 (fun _ => rfl) (by kernel_rfl)) (fun ps R K => by unfold LP_z11z_L4; split <;> (try unfold z11z_L4) <;> rfl) (s_z11z_L4 I_z11z)
theorem sm_z11z (g : C_z11z) : Same (SS_z11z (@z11z_ g)) (abody (E_z11z g) Tryz.f29 code_29 6 [0] [.arr 38] g.N) := by intro args; unfold SS_z11z; split; exact .inr fun R k => (by kernel_rfl); exact .inl fun R k => rfl
theorem ok_z11z [Fuel] : Ok 29 (SS_z11z (@z11z _)) := okF_of std (.cons ok_z60z (.cons ok_z64z (.cons ok_z25z (.cons ok_z6z .nil)))) ⟨rfl, rfl, by kernel_rfl, rfl, rfl, rfl⟩ (sm_z11z I_z11z) (cutsL (fun _ => rfl) (.cons lf_z11z_L4 .nil) (by kernel_rfl)) Tryz.func29 (by kernel_rfl) (by kernel_rfl)
abbrev T_strings_IndexByte : Type 1 := List UInt8 → Int → {R : Type} → (Int → Option R) → Option R
def strings_IndexByte [Fuel] : T_strings_IndexByte := @X_ixb
def SS_strings_IndexByte (g : T_strings_IndexByte) : Spec A := SSX_ixb g
theorem ok_strings_IndexByte [Fuel] : Ok 130 (SS_strings_IndexByte (@strings_IndexByte _)) := ⟨ssx_ixb_sound (ixb_sound (Any.strings_IndexByte Tryz.lays137)), ssx_ixb_nat, enters_of (fn := Tryz.f130) Tryz.func130 (by kernel_rfl) (by kernel_rfl)⟩
abbrev T_Q_only : Type 1 := List UInt8 → List UInt8 → {R : Type} → (Bool → Option R) → Option R
structure C_Q_only where
 N : Nat
 strings_IndexByte : T_strings_IndexByte
def Q_only_L2 (g : C_Q_only) : Nat → List UInt8 → List UInt8 → Int → Int → {R : Type} → (Bool → Option R) → Option R → Option R
 | 0, _, _, _, _, _, _, _ => none
 | n + 1, v3, v4, v5, v6, _, e0, e1 => (bif (decide (v6 < v5)) then (get_ v3 v6 fun x9 => (g.strings_IndexByte v4 (x9.toNat : Int) (fun r10 => (bif (decide (r10 < 0)) then e0 false else Q_only_L2 g n v3 v4 v5 (w64 (v6 + 1)) e0 e1)))) else e1)
def Q_only_ (g : C_Q_only) (a1 a2 : List UInt8) {R : Type} (k0 : Bool → Option R) : Option R :=
 (Q_only_L2 g g.N a1 a2 (a1.length : Int) 0 (fun e11 => k0 e11) (k0 true))
noncomputable def I_Q_only [Fuel] : C_Q_only := ⟨NN, @strings_IndexByte _⟩
noncomputable def Q_only [Fuel] : T_Q_only := @Q_only_ I_Q_only
def SS_Q_only (g : T_Q_only) : Spec A := fun args => match args with | [.d (.str a1), .d (.str a2)] => fun k => g a1 a2 (fun z0 => k (.d (.bool z0)) [.undef, .undef]) | _ => fun _ => none
def sh_Q_only_L2 : SSt := mkSh 18 0 [(0, .str), (1, .str), (7, .int .i64), (8, .int .i64)] []
def LP_Q_only_L2 (g : C_Q_only) (n : Nat) : LPT A := fun ps => match ps with | [.d (.str p1), .d (.str p2), .d (.int .i64 p3), .d (.int .i64 p4)] => fun K => Q_only_L2 g n p1 p2 p3 p4 (fun z0 => K .ret (mkSt 18 0 [(4, .d (.bool z0))] [])) (K (.exit 0) (mkSt 18 0 [] [])) | _ => fun _ => none
noncomputable def code_162 : Code := (Tryz.f162.body).getD .skip
noncomputable def E_Q_only (g : C_Q_only) : Env A := mkE [(130, SS_strings_IndexByte g.strings_IndexByte)] [] [(2, ⟨[0, 1, 7, 8], [], [], [], [], [], []⟩)] [(2, ⟨[4], [], [], [], [], [], []⟩)] [(2, pieceOf sh_Q_only_L2 (LP_Q_only_L2 g g.N))] [] [] [] [] []
theorem ct_Q_only [Fuel] : NatTab (E_Q_only I_Q_only).C := ct_of (P := Tryz.prog) (T := T) (.cons ok_strings_IndexByte .nil) (by kernel_rfl)
noncomputable def cb_Q_only_L2 : Code := sub [1, 0, 1, 0, 0] code_162
theorem s_Q_only_L2 (g : C_Q_only) (n : Nat) : StepOk (E_Q_only g) g.N cb_Q_only_L2 sh_Q_only_L2 (LP_Q_only_L2 g) n := by intro ps; unfold LP_Q_only_L2; split; exact .inr fun R K => (by kernel_rfl); exact .inl fun R K => rfl
theorem lf_Q_only_L2 [Fuel] : LoopFine (E_Q_only I_Q_only) NN cb_Q_only_L2 := fine_loop sh_Q_only_L2 (LP_Q_only_L2 I_Q_only) (by kernel_rfl) ct_Q_only (cuts0 (fun _ => rfl) (by kernel_rfl)) (fun ps R K => by unfold LP_Q_only_L2; split <;> (try unfold Q_only_L2) <;> rfl) (s_Q_only_L2 I_Q_only)
theorem sm_Q_only (g : C_Q_only) : Same (SS_Q_only (@Q_only_ g)) (abody (E_Q_only g) Tryz.f162 code_162 0 [] [.asis] g.N) := by intro args; unfold SS_Q_only; split; exact .inr fun R k => (by kernel_rfl); exact .inl fun R k => rfl
theorem ok_Q_only [Fuel] : Ok 162 (SS_Q_only (@Q_only _)) := okF_of std (.cons ok_strings_IndexByte .nil) ⟨rfl, rfl, by kernel_rfl, rfl, rfl, rfl⟩ (sm_Q_only I_Q_only) (cutsL (fun _ => rfl) (.cons lf_Q_only_L2 .nil) (by kernel_rfl)) Tryz.func162 (by kernel_rfl) (by kernel_rfl)
abbrev T_Q_Key : Type 1 := List UInt8 → {R : Type} → (Bool → Option R) → Option R
structure C_Q_Key where
 N : Nat
 Q_in : T_Q_in
 Q_only : T_Q_only
def Q_Key_ (g : C_Q_Key) (a1 : List UInt8) {R : Type} (k0 : Bool → Option R) : Option R :=
 (g.Q_in (a1.length : Int) 1 40 (fun r2 => (bif r2 then (bif (decide (0 ≤ 1) && decide (1 ≤ (a1.length : Int))) then (g.Q_only (a1.take (1 : Int).toNat) [97, 98, 99, 100, 101, 102, 103, 104, 105, 106, 107, 108, 109, 110, 111, 112, 113, 114, 115, 116, 117, 118, 119, 120, 121, 122] (fun r3 => (bif r3 then (g.Q_only a1 [97, 98, 99, 100, 101, 102, 103, 104, 105, 106, 107, 108, 109, 110, 111, 112, 113, 114, 115, 116, 117, 118, 119, 120, 121, 122, 48, 49, 50, 51, 52, 53, 54, 55, 56, 57, 45, 95] (fun r4 => k0 r4)) else k0 false))) else none) else k0 false)))
noncomputable def I_Q_Key [Fuel] : C_Q_Key := ⟨NN, @Q_in _, @Q_only _⟩
noncomputable def Q_Key [Fuel] : T_Q_Key := @Q_Key_ I_Q_Key
def SS_Q_Key (g : T_Q_Key) : Spec A := fun args => match args with | [.d (.str a1)] => fun k => g a1 (fun z0 => k (.d (.bool z0)) [.undef]) | _ => fun _ => none
noncomputable def code_117 : Code := (Tryz.f117.body).getD .skip
noncomputable def E_Q_Key (g : C_Q_Key) : Env A := mkE [(62, SS_Q_in g.Q_in), (162, SS_Q_only g.Q_only)] [] [] [] [] [] [] [] [] []
theorem sm_Q_Key (g : C_Q_Key) : Same (SS_Q_Key (@Q_Key_ g)) (abody (E_Q_Key g) Tryz.f117 code_117 0 [] [.asis] g.N) := by intro args; unfold SS_Q_Key; split; exact .inr fun R k => (by kernel_rfl); exact .inl fun R k => rfl
theorem ok_Q_Key [Fuel] : Ok 117 (SS_Q_Key (@Q_Key _)) := okF_of std (.cons ok_Q_in (.cons ok_Q_only .nil)) ⟨rfl, rfl, by kernel_rfl, rfl, rfl, rfl⟩ (sm_Q_Key I_Q_Key) (cuts0 (fun _ => rfl) (by kernel_rfl)) Tryz.func117 (by kernel_rfl) (by kernel_rfl)
abbrev T_z78z : Type 1 := G_Contact → {R : Type} → (Int → Option R) → Option R
structure C_z78z where
 N : Nat
 Q_Moment : T_Q_Moment
 Q_in : T_Q_in
 Q_Call : T_Q_Call
 Q_Key : T_Q_Key
def z78z_ (g : C_z78z) (a1 : G_Contact) {R : Type} (k0 : Int → Option R) : Option R :=
 (g.Q_Moment a1.f_At (fun r2 => (bif (!r2) then k0 1 else (g.Q_in a1.f_Mode 1 3 (fun r3 => (bif (!r3) then k0 4 else (g.Q_Key a1.f_Band (fun r4 => (bif (!r4) then k0 5 else (g.Q_Call a1.f_Call (fun r5 => (bif (!r5) then k0 3 else (g.Q_in a1.f_Sent 0 99999 (fun r6 => (bif (!r6) then k0 1 else (g.Q_in a1.f_Heard 0 99999 (fun r7 => (bif (!r7) then k0 1 else (bif (!(a1.f_Gave == [])) then (g.Q_Key a1.f_Gave (fun r8 => (bif (!r8) then k0 5 else (bif (!(a1.f_Got == [])) then (g.Q_Key a1.f_Got (fun r9 => (bif (!r9) then k0 5 else k0 0))) else k0 0)))) else (bif (!(a1.f_Got == [])) then (g.Q_Key a1.f_Got (fun r10 => (bif (!r10) then k0 5 else k0 0))) else k0 0))))))))))))))))))))
noncomputable def I_z78z [Fuel] : C_z78z := ⟨NN, @Q_Moment _, @Q_in _, @Q_Call _, @Q_Key _⟩
noncomputable def z78z [Fuel] : T_z78z := @z78z_ I_z78z
def SS_z78z (g : T_z78z) : Spec A := fun args => match args with | [.agg [.d (.int .i64 a1), .d (.int .i64 a2), .d (.str a3), .d (.str a4), .d (.int .i64 a5), .d (.int .i64 a6), .d (.str a7), .d (.str a8)]] => fun k => g ⟨a1, a2, a3, a4, a5, a6, a7, a8⟩ (fun z0 => k (.d (.int .i64 z0)) [.undef]) | _ => fun _ => none
noncomputable def code_70 : Code := (Tryz.f70.body).getD .skip
noncomputable def E_z78z (g : C_z78z) : Env A := mkE [(61, SS_Q_Moment g.Q_Moment), (62, SS_Q_in g.Q_in), (63, SS_Q_Call g.Q_Call), (117, SS_Q_Key g.Q_Key)] [(1, [0])] [] [] [] [] [] [] [] []
theorem sm_z78z (g : C_z78z) : Same (SS_z78z (@z78z_ g)) (abody (E_z78z g) Tryz.f70 code_70 1 [] [.asis] g.N) := by intro args; unfold SS_z78z; split; exact .inr fun R k => (by kernel_rfl); exact .inl fun R k => rfl
theorem ok_z78z [Fuel] : Ok 70 (SS_z78z (@z78z _)) := okF_of std (.cons ok_Q_Moment (.cons ok_Q_in (.cons ok_Q_Call (.cons ok_Q_Key .nil)))) ⟨rfl, rfl, by kernel_rfl, rfl, rfl, rfl⟩ (sm_z78z I_z78z) (cuts0 (fun _ => rfl) (by kernel_rfl)) Tryz.func70 (by kernel_rfl) (by kernel_rfl)
abbrev T_Q_LogFault : Type 1 := List G_Contact → {R : Type} → (Int → Option R) → Option R
structure C_Q_LogFault where
 N : Nat
 z7z : T_z7z
 z78z : T_z78z
def Q_LogFault_L4 (g : C_Q_LogFault) : Nat → List G_Contact → List G_Contact → Int → Int → {R : Type} → (Int → Option R) → Option R → Option R
 | 0, _, _, _, _, _, _, _ => none
 | n + 1, v2, v3, v4, v5, _, e0, e1 => (bif (decide (v5 < v4)) then (get_ v3 v5 fun x10 => (g.z78z x10 (fun r11 => (bif (r11 != 0) then e0 r11 else (bif (decide (v5 > 0)) then (get_ v2 (w64 (v5 - 1)) fun x12 => (g.z7z x12 x10 (fun r13 => (bif (decide (r13 ≥ 0)) then e0 7 else Q_LogFault_L4 g n v2 v3 v4 (w64 (v5 + 1)) e0 e1)))) else Q_LogFault_L4 g n v2 v3 v4 (w64 (v5 + 1)) e0 e1))))) else e1)
def Q_LogFault_ (g : C_Q_LogFault) (a1 : List G_Contact) {R : Type} (k0 : Int → Option R) : Option R :=
 (bif (decide ((a1.length : Int) > 2000)) then k0 2 else (Q_LogFault_L4 g g.N a1 a1 (a1.length : Int) 0 (fun e14 => k0 e14) (k0 0)))
noncomputable def I_Q_LogFault [Fuel] : C_Q_LogFault := ⟨NN, @z7z _, @z78z _⟩
noncomputable def Q_LogFault [Fuel] : T_Q_LogFault := @Q_LogFault_ I_Q_LogFault
def SS_Q_LogFault (g : T_Q_LogFault) : Spec A := fun args => match args with | [.d (.sl 38 a1)] => fun k => g a1 (fun z0 => k (.d (.int .i64 z0)) [.undef]) | _ => fun _ => none
def sh_Q_LogFault_L4 : SSt := mkSh 34 1 [(0, .sl 38), (9, .sl 38), (10, .int .i64), (11, .int .i64)] []
def LP_Q_LogFault_L4 (g : C_Q_LogFault) (n : Nat) : LPT A := fun ps => match ps with | [.d (.sl 38 p1), .d (.sl 38 p2), .d (.int .i64 p3), .d (.int .i64 p4)] => fun K => Q_LogFault_L4 g n p1 p2 p3 p4 (fun z0 => K .ret (mkSt 34 1 [(2, .d (.int .i64 z0))] [])) (K (.exit 0) (mkSt 34 1 [] [])) | _ => fun _ => none
noncomputable def code_30 : Code := (Tryz.f30.body).getD .skip
noncomputable def E_Q_LogFault (g : C_Q_LogFault) : Env A := mkE [(67, SS_z7z g.z7z), (70, SS_z78z g.z78z)] [(4, [0])] [(4, ⟨[0, 9, 10, 11], [], [], [], [], [], []⟩)] [(4, ⟨[2], [], [], [], [], [], []⟩)] [(4, pieceOf sh_Q_LogFault_L4 (LP_Q_LogFault_L4 g g.N))] [] [] [] [] []
theorem ct_Q_LogFault [Fuel] : NatTab (E_Q_LogFault I_Q_LogFault).C := ct_of (P := Tryz.prog) (T := T) (.cons ok_z7z (.cons ok_z78z .nil)) (by kernel_rfl)
noncomputable def cb_Q_LogFault_L4 : Code := sub [1, 1, 0, 1, 0, 0] code_30
theorem s_Q_LogFault_L4 (g : C_Q_LogFault) (n : Nat) : StepOk (E_Q_LogFault g) g.N cb_Q_LogFault_L4 sh_Q_LogFault_L4 (LP_Q_LogFault_L4 g) n := by intro ps; unfold LP_Q_LogFault_L4; split; exact .inr fun R K => (by kernel_rfl); exact .inl fun R K => rfl
theorem lf_Q_LogFault_L4 [Fuel] : LoopFine (E_Q_LogFault I_Q_LogFault) NN cb_Q_LogFault_L4 := fine_loop sh_Q_LogFault_L4 (LP_Q_LogFault_L4 I_Q_LogFault) (by kernel_rfl) ct_Q_LogFault (cuts0 (fun _ => rfl) (by kernel_rfl)) (fun ps R K => by unfold LP_Q_LogFault_L4; split <;> (try unfold Q_LogFault_L4) <;> rfl) (s_Q_LogFault_L4 I_Q_LogFault)
theorem sm_Q_LogFault (g : C_Q_LogFault) : Same (SS_Q_LogFault (@Q_LogFault_ g)) (abody (E_Q_LogFault g) Tryz.f30 code_30 1 [] [.asis] g.N) := by intro args; unfold SS_Q_LogFault; split; exact .inr fun R k => (by kernel_rfl); exact .inl fun R k => rfl
theorem ok_Q_LogFault [Fuel] : Ok 30 (SS_Q_LogFault (@Q_LogFault _)) := okF_of std (.cons ok_z7z (.cons ok_z78z .nil)) ⟨rfl, rfl, by kernel_rfl, rfl, rfl, rfl⟩ (sm_Q_LogFault I_Q_LogFault) (cutsL (fun _ => rfl) (.cons lf_Q_LogFault_L4 .nil) (by kernel_rfl)) Tryz.func30 (by kernel_rfl) (by kernel_rfl)
abbrev T_z29z : Type 1 := G_Stream → Int → {R : Type} → (List G_Contact → G_Stream → Option R) → Option R
structure C_z29z where
 N : Nat
 z11z : T_z11z
 Q_LogFault : T_Q_LogFault
def z29z_L2 (g : C_z29z) : Nat → Int → Int → G_Stream → {R : Type} → (G_Stream → List G_Contact → Option R) → (G_Stream → Option R) → Option R
 | 0, _, _, _, _, _, _ => none
 | n + 1, v3, v4, v5, _, e0, e1 => (bif (decide (v4 < 5)) then (g.z11z v5 v3 (fun r9 r10 => (g.Q_LogFault r9 (fun r11 => (bif (r11 == 0) then e0 r10 r9 else z29z_L2 g n v3 (w64 (v4 + 1)) r10 e0 e1))))) else e1 v5)
def z29z_ (g : C_z29z) (a1 : G_Stream) (a2 : Int) {R : Type} (k0 : List G_Contact → G_Stream → Option R) : Option R :=
 (z29z_L2 g g.N a2 0 a1 (fun e12 e13 => k0 e13 e12) (fun e14 => k0 [] e14))
noncomputable def I_z29z [Fuel] : C_z29z := ⟨NN, @z11z _, @Q_LogFault _⟩
noncomputable def z29z [Fuel] : T_z29z := @z29z_ I_z29z
def SS_z29z (g : T_z29z) : Spec A := fun args => match args with | [.box [.d (.sl 3 a1), .d (.int .i64 a2)], .d (.int .i64 a3)] => fun k => g ⟨a1, a2⟩ a3 (fun z0 z1 => k (.arr 38 z0) [.box [.d (.sl 3 z1.f_L), .d (.int .i64 z1.f_at)], .undef]) | _ => fun _ => none
def sh_z29z_L2 : SSt := mkSh 16 2 [(0, .ptr 0 0), (1, .int .i64), (6, .int .i64)] [(0, .box [.sl 3, .int .i64])]
def LP_z29z_L2 (g : C_z29z) (n : Nat) : LPT A := fun ps => match ps with | [.d (.int .i64 p1), .d (.int .i64 p2), .d (.sl 3 p3), .d (.int .i64 p4)] => fun K => z29z_L2 g n p1 p2 ⟨p3, p4⟩ (fun z0 z1 => K .ret (mkSt 16 2 [(0, .ptr 0 0), (4, .own 38 1)] [(0, some (.box [.d (.sl 3 z0.f_L), .d (.int .i64 z0.f_at)])), (1, some (.row 38 z1))])) (fun z0 => K (.exit 0) (mkSt 16 2 [(0, .ptr 0 0)] [(0, some (.box [.d (.sl 3 z0.f_L), .d (.int .i64 z0.f_at)]))])) | _ => fun _ => none
noncomputable def code_8 : Code := (Tryz.f8.body).getD .skip
noncomputable def E_z29z (g : C_z29z) : Env A := mkE [(29, SS_z11z g.z11z), (30, SS_Q_LogFault g.Q_LogFault)] [(10, [1])] [(2, ⟨[0, 1, 6], [], [0], [], [], [], []⟩)] [(2, ⟨[0, 4], [], [0, 1], [], [], [], []⟩)] [(2, pieceOf sh_z29z_L2 (LP_z29z_L2 g g.N))] [] [] [] [] [0]
theorem ct_z29z [Fuel] : NatTab (E_z29z I_z29z).C := ct_of (P := Tryz.prog) (T := T) (.cons ok_z11z (.cons ok_Q_LogFault .nil)) (by kernel_rfl)
noncomputable def cb_z29z_L2 : Code := sub [1, 0, 1, 0, 0] code_8
theorem s_z29z_L2 (g : C_z29z) (n : Nat) : StepOk (E_z29z g) g.N cb_z29z_L2 sh_z29z_L2 (LP_z29z_L2 g) n := by intro ps; unfold LP_z29z_L2; split; exact .inr fun R K => (by kernel_rfl); exact .inl fun R K => rfl
theorem lf_z29z_L2 [Fuel] : LoopFine (E_z29z I_z29z) NN cb_z29z_L2 := fine_loop sh_z29z_L2 (LP_z29z_L2 I_z29z) (by kernel_rfl) ct_z29z (cuts0 (fun _ => rfl) (by kernel_rfl)) (fun ps R K => by unfold LP_z29z_L2; split <;> (try unfold z29z_L2) <;> rfl) (s_z29z_L2 I_z29z)
theorem sm_z29z (g : C_z29z) : Same (SS_z29z (@z29z_ g)) (abody (E_z29z g) Tryz.f8 code_8 2 [0] [.arr 38] g.N) := by intro args; unfold SS_z29z; split; exact .inr fun R k => (by kernel_rfl); exact .inl fun R k => rfl
theorem ok_z29z [Fuel] : Ok 8 (SS_z29z (@z29z _)) := okF_of std (.cons ok_z11z (.cons ok_Q_LogFault .nil)) ⟨rfl, rfl, by kernel_rfl, rfl, rfl, rfl⟩ (sm_z29z I_z29z) (cutsL (fun _ => rfl) (.cons lf_z29z_L2 .nil) (by kernel_rfl)) Tryz.func8 (by kernel_rfl) (by kernel_rfl)
abbrev T_kit_IsKey : Type 1 := List UInt8 → {R : Type} → (Bool → Option R) → Option R
structure C_kit_IsKey where
 N : Nat
 strings_IndexByte : T_strings_IndexByte
 strings_Trim : T_strings_Trim
def kit_IsKey_ (g : C_kit_IsKey) (a1 : List UInt8) {R : Type} (k0 : Bool → Option R) : Option R :=
 (bif (!(a1 == [])) then (bif (decide ((a1.length : Int) ≤ 40)) then (at_ a1 0 fun x2 => (g.strings_IndexByte [97, 98, 99, 100, 101, 102, 103, 104, 105, 106, 107, 108, 109, 110, 111, 112, 113, 114, 115, 116, 117, 118, 119, 120, 121, 122] (x2.toNat : Int) (fun r3 => (bif (decide (r3 ≥ 0)) then (g.strings_Trim a1 [97, 98, 99, 100, 101, 102, 103, 104, 105, 106, 107, 108, 109, 110, 111, 112, 113, 114, 115, 116, 117, 118, 119, 120, 121, 122, 48, 49, 50, 51, 52, 53, 54, 55, 56, 57, 45, 95] (fun r4 => k0 (r4 == []))) else k0 false)))) else k0 false) else k0 false)
noncomputable def I_kit_IsKey [Fuel] : C_kit_IsKey := ⟨NN, @strings_IndexByte _, @strings_Trim _⟩
noncomputable def kit_IsKey [Fuel] : T_kit_IsKey := @kit_IsKey_ I_kit_IsKey
def SS_kit_IsKey (g : T_kit_IsKey) : Spec A := fun args => match args with | [.d (.str a1)] => fun k => g a1 (fun z0 => k (.d (.bool z0)) [.undef]) | _ => fun _ => none
noncomputable def code_80 : Code := (Tryz.f80.body).getD .skip
noncomputable def E_kit_IsKey (g : C_kit_IsKey) : Env A := mkE [(130, SS_strings_IndexByte g.strings_IndexByte), (131, SS_strings_Trim g.strings_Trim)] [] [] [] [] [] [] [] [] []
theorem sm_kit_IsKey (g : C_kit_IsKey) : Same (SS_kit_IsKey (@kit_IsKey_ g)) (abody (E_kit_IsKey g) Tryz.f80 code_80 0 [] [.asis] g.N) := by intro args; unfold SS_kit_IsKey; split; exact .inr fun R k => (by kernel_rfl); exact .inl fun R k => rfl
theorem ok_kit_IsKey [Fuel] : Ok 80 (SS_kit_IsKey (@kit_IsKey _)) := okF_of std (.cons ok_strings_IndexByte (.cons ok_strings_Trim .nil)) ⟨rfl, rfl, by kernel_rfl, rfl, rfl, rfl⟩ (sm_kit_IsKey I_kit_IsKey) (cuts0 (fun _ => rfl) (by kernel_rfl)) Tryz.func80 (by kernel_rfl) (by kernel_rfl)
abbrev T_z44z : Type 1 := Int → Int → Int → {R : Type} → (Bool → Option R) → Option R
def z44z_ (g : Nat) (a1 a2 a3 : Int) {R : Type} (k0 : Bool → Option R) : Option R :=
 (bif (decide (a1 < a2)) then k0 true else k0 (decide (a1 > a3)))
noncomputable def z44z [Fuel] : T_z44z := @z44z_ NN
def SS_z44z (g : T_z44z) : Spec A := fun args => match args with | [.d (.int .i64 a1), .d (.int .i64 a2), .d (.int .i64 a3)] => fun k => g a1 a2 a3 (fun z0 => k (.d (.bool z0)) [.undef, .undef, .undef]) | _ => fun _ => none
noncomputable def code_42 : Code := (Tryz.f42.body).getD .skip
noncomputable def E_z44z (g : Nat) : Env A := mkE [] [] [] [] [] [] [] [] [] []
theorem sm_z44z (g : Nat) : Same (SS_z44z (@z44z_ g)) (abody (E_z44z g) Tryz.f42 code_42 0 [] [.asis] g) := by intro args; unfold SS_z44z; split; exact .inr fun R k => (by kernel_rfl); exact .inl fun R k => rfl
theorem ok_z44z [Fuel] : Ok 42 (SS_z44z (@z44z _)) := okF_of std .nil ⟨rfl, rfl, by kernel_rfl, rfl, rfl, rfl⟩ (sm_z44z NN) (cuts0 (fun _ => rfl) (by kernel_rfl)) Tryz.func42 (by kernel_rfl) (by kernel_rfl)
abbrev T_z19z : Type 1 := G_Band → G_Band → {R : Type} → (Bool → G_Band → Option R) → Option R
def z19z_ (g : Nat) (a1 a2 : G_Band) {R : Type} (k0 : Bool → G_Band → Option R) : Option R :=
 k0 (a1.f_Key == a2.f_Key) a2
noncomputable def z19z [Fuel] : T_z19z := @z19z_ NN
def SS_z19z (g : T_z19z) : Spec A := fun args => match args with | [.agg [.d (.str a1), .d (.int .i64 a2), .d (.int .i64 a3)], .box [.d (.str a4), .d (.int .i64 a5), .d (.int .i64 a6)]] => fun k => g ⟨a1, a2, a3⟩ ⟨a4, a5, a6⟩ (fun z0 z1 => k (.d (.bool z0)) [.undef, .box [.d (.str z1.f_Key), .d (.int .i64 z1.f_Low), .d (.int .i64 z1.f_High)]]) | _ => fun _ => none
noncomputable def code_82 : Code := (Tryz.f82.body).getD .skip
noncomputable def E_z19z (g : Nat) : Env A := mkE [] [(2, [1])] [] [] [] [] [] [] [] [1]
theorem sm_z19z (g : Nat) : Same (SS_z19z (@z19z_ g)) (abody (E_z19z g) Tryz.f82 code_82 2 [0] [.asis] g) := by intro args; unfold SS_z19z; split; exact .inr fun R k => (by kernel_rfl); exact .inl fun R k => rfl
theorem ok_z19z [Fuel] : Ok 82 (SS_z19z (@z19z _)) := okF_of std .nil ⟨rfl, rfl, by kernel_rfl, rfl, rfl, rfl⟩ (sm_z19z NN) (cuts0 (fun _ => rfl) (by kernel_rfl)) Tryz.func82 (by kernel_rfl) (by kernel_rfl)
abbrev T_z14z : Type 1 := List G_Band → G_Band → {R : Type} → (Int → G_Band → Option R) → Option R
structure C_z14z where
 N : Nat
 z19z : T_z19z
def z14z_L2 (g : C_z14z) : Nat → List G_Band → Int → Int → G_Band → {R : Type} → (Int → G_Band → Option R) → (G_Band → Option R) → Option R
 | 0, _, _, _, _, _, _, _ => none
 | n + 1, v3, v4, v5, v6, _, e0, e1 => (bif (decide (v5 < v4)) then (get_ v3 v5 fun x10 => (g.z19z x10 v6 (fun r11 r12 => (bif r11 then e0 v5 r12 else z14z_L2 g n v3 v4 (w64 (v5 + 1)) r12 e0 e1)))) else e1 v6)
def z14z_ (g : C_z14z) (a1 : List G_Band) (a2 : G_Band) {R : Type} (k0 : Int → G_Band → Option R) : Option R :=
 (z14z_L2 g g.N a1 (a1.length : Int) 0 a2 (fun e13 e14 => k0 e13 e14) (fun e15 => k0 (-1) e15))
noncomputable def I_z14z [Fuel] : C_z14z := ⟨NN, @z19z _⟩
noncomputable def z14z [Fuel] : T_z14z := @z14z_ I_z14z
def SS_z14z (g : T_z14z) : Spec A := fun args => match args with | [.d (.sl 62 a1), .fn 82 [.box [.d (.str a2), .d (.int .i64 a3), .d (.int .i64 a4)]]] => fun k => g a1 ⟨a2, a3, a4⟩ (fun z0 z1 => k (.d (.int .i64 z0)) [.undef, .fn 82 [.box [.d (.str z1.f_Key), .d (.int .i64 z1.f_Low), .d (.int .i64 z1.f_High)]]]) | _ => fun _ => none
def sh_z14z_L2 : SSt := mkSh 19 1 [(0, .sl 62), (1, .fn 82 [.ptr 0 0]), (7, .int .i64), (8, .int .i64)] [(0, .box [.str, .int .i64, .int .i64])]
def LP_z14z_L2 (g : C_z14z) (n : Nat) : LPT A := fun ps => match ps with | [.d (.sl 62 p1), .d (.int .i64 p2), .d (.int .i64 p3), .d (.str p4), .d (.int .i64 p5), .d (.int .i64 p6)] => fun K => z14z_L2 g n p1 p2 p3 ⟨p4, p5, p6⟩ (fun z0 z1 => K .ret (mkSt 19 1 [(1, .fn 82 [.ptr 0 0]), (4, .d (.int .i64 z0))] [(0, some (.box [.d (.str z1.f_Key), .d (.int .i64 z1.f_Low), .d (.int .i64 z1.f_High)]))])) (fun z0 => K (.exit 0) (mkSt 19 1 [(1, .fn 82 [.ptr 0 0])] [(0, some (.box [.d (.str z0.f_Key), .d (.int .i64 z0.f_Low), .d (.int .i64 z0.f_High)]))])) | _ => fun _ => none
noncomputable def code_83 : Code := (Tryz.f83.body).getD .skip
noncomputable def E_z14z (g : C_z14z) : Env A := mkE [(82, SS_z19z g.z19z)] [] [(2, ⟨[0, 1, 7, 8], [], [0], [], [], [], []⟩)] [(2, ⟨[1, 4], [], [0], [], [], [], []⟩)] [(2, pieceOf sh_z14z_L2 (LP_z14z_L2 g g.N))] [] [] [] [] [1]
theorem ct_z14z [Fuel] : NatTab (E_z14z I_z14z).C := ct_of (P := Tryz.prog) (T := T) (.cons ok_z19z .nil) (by kernel_rfl)
noncomputable def cb_z14z_L2 : Code := sub [1, 0, 1, 0, 0] code_83
theorem s_z14z_L2 (g : C_z14z) (n : Nat) : StepOk (E_z14z g) g.N cb_z14z_L2 sh_z14z_L2 (LP_z14z_L2 g) n := by intro ps; unfold LP_z14z_L2; split; exact .inr fun R K => (by kernel_rfl); exact .inl fun R K => rfl
theorem lf_z14z_L2 [Fuel] : LoopFine (E_z14z I_z14z) NN cb_z14z_L2 := fine_loop sh_z14z_L2 (LP_z14z_L2 I_z14z) (by kernel_rfl) ct_z14z (cuts0 (fun _ => rfl) (by kernel_rfl)) (fun ps R K => by unfold LP_z14z_L2; split <;> (try unfold z14z_L2) <;> rfl) (s_z14z_L2 I_z14z)
theorem sm_z14z (g : C_z14z) : Same (SS_z14z (@z14z_ g)) (abody (E_z14z g) Tryz.f83 code_83 1 [0] [.asis] g.N) := by intro args; unfold SS_z14z; split; exact .inr fun R k => (by kernel_rfl); exact .inl fun R k => rfl
theorem ok_z14z [Fuel] : Ok 83 (SS_z14z (@z14z _)) := okF_of std (.cons ok_z19z .nil) ⟨rfl, rfl, by kernel_rfl, rfl, rfl, rfl⟩ (sm_z14z I_z14z) (cutsL (fun _ => rfl) (.cons lf_z14z_L2 .nil) (by kernel_rfl)) Tryz.func83 (by kernel_rfl) (by kernel_rfl)
abbrev T_z28z : Type 1 := List G_Band → G_Band → {R : Type} → (Bool → G_Band → Option R) → Option R
structure C_z28z where
 N : Nat
 z14z : T_z14z
def z28z_ (g : C_z28z) (a1 : List G_Band) (a2 : G_Band) {R : Type} (k0 : Bool → G_Band → Option R) : Option R :=
 (g.z14z a1 a2 (fun r3 r4 => k0 (decide (r3 ≥ 0)) r4))
noncomputable def I_z28z [Fuel] : C_z28z := ⟨NN, @z14z _⟩
noncomputable def z28z [Fuel] : T_z28z := @z28z_ I_z28z
def SS_z28z (g : T_z28z) : Spec A := fun args => match args with | [.d (.sl 62 a1), .fn 82 [.box [.d (.str a2), .d (.int .i64 a3), .d (.int .i64 a4)]]] => fun k => g a1 ⟨a2, a3, a4⟩ (fun z0 z1 => k (.d (.bool z0)) [.undef, .fn 82 [.box [.d (.str z1.f_Key), .d (.int .i64 z1.f_Low), .d (.int .i64 z1.f_High)]]]) | _ => fun _ => none
noncomputable def code_81 : Code := (Tryz.f81.body).getD .skip
noncomputable def E_z28z (g : C_z28z) : Env A := mkE [(83, SS_z14z g.z14z)] [] [] [] [] [] [] [] [(83, 0)] [1]
theorem sm_z28z (g : C_z28z) : Same (SS_z28z (@z28z_ g)) (abody (E_z28z g) Tryz.f81 code_81 1 [0] [.asis] g.N) := by intro args; unfold SS_z28z; split; exact .inr fun R k => (by kernel_rfl); exact .inl fun R k => rfl
theorem ok_z28z [Fuel] : Ok 81 (SS_z28z (@z28z _)) := okF_of std (.cons ok_z14z .nil) ⟨rfl, rfl, by kernel_rfl, rfl, rfl, rfl⟩ (sm_z28z I_z28z) (cuts0 (fun _ => rfl) (by kernel_rfl)) Tryz.func81 (by kernel_rfl) (by kernel_rfl)
abbrev T_z8z : Type 1 := List G_Band → {R : Type} → (Int → Option R) → Option R
structure C_z8z where
 N : Nat
 z44z : T_z44z
 kit_IsKey : T_kit_IsKey
 z28z : T_z28z
def z8z_L4 (g : C_z8z) : Nat → List G_Band → List G_Band → Int → Int → {R : Type} → (List G_Band → Int → Option R) → (List G_Band → Option R) → Option R
 | 0, _, _, _, _, _, _, _ => none
 | n + 1, v2, v3, v4, v5, _, e0, e1 => (bif (decide (v5 < v4)) then (get_ v3 v5 fun x11 => (g.kit_IsKey x11.f_Key (fun r12 => (bif (!r12) then e0 v2 5 else (g.z44z x11.f_Low 0 30000000000 (fun r13 => (bif r13 then e0 v2 1 else (g.z44z x11.f_High 0 30000000000 (fun r14 => (bif r14 then e0 v2 1 else (bif ((Int.tmod x11.f_Low 1000) != 0) then e0 v2 1 else (bif ((Int.tmod x11.f_High 1000) != 0) then e0 v2 1 else (bif (decide (x11.f_High ≤ x11.f_Low)) then e0 v2 1 else (bif (decide (v5 > 0)) then (get_ v2 (w64 (v5 - 1)) fun x15 => (bif (decide (x11.f_Low < x15.f_High)) then e0 v2 7 else z8z_L4 g n v2 v3 v4 (w64 (v5 + 1)) e0 e1)) else z8z_L4 g n v2 v3 v4 (w64 (v5 + 1)) e0 e1)))))))))))))) else e1 v2)
def z8z_L14 (g : C_z8z) : Nat → List G_Band → List G_Band → Int → Int → {R : Type} → (Int → Option R) → Option R → Option R
 | 0, _, _, _, _, _, _, _ => none
 | n + 1, v19, v20, v21, v22, _, e0, e1 => (bif (decide (v22 < v21)) then (get_ v20 v22 fun x26 => (bif (decide (0 ≤ v22) && decide (v22 ≤ (v19.length : Int))) then (g.z28z (v19.take (v22 : Int).toNat) x26 (fun r27 r28 => (bif r27 then e0 6 else z8z_L14 g n v19 v20 v21 (w64 (v22 + 1)) e0 e1))) else none)) else e1)
def z8z_ (g : C_z8z) (a1 : List G_Band) {R : Type} (k0 : Int → Option R) : Option R :=
 (bif (decide ((a1.length : Int) > 30)) then k0 2 else (z8z_L4 g g.N a1 a1 (a1.length : Int) 0 (fun e16 e17 => k0 e17) (fun e18 => (z8z_L14 g g.N e18 e18 (e18.length : Int) 0 (fun e29 => k0 e29) (k0 0)))))
noncomputable def I_z8z [Fuel] : C_z8z := ⟨NN, @z44z _, @kit_IsKey _, @z28z _⟩
noncomputable def z8z [Fuel] : T_z8z := @z8z_ I_z8z
def SS_z8z (g : T_z8z) : Spec A := fun args => match args with | [.d (.sl 62 a1)] => fun k => g a1 (fun z0 => k (.d (.int .i64 z0)) [.undef]) | _ => fun _ => none
def sh_z8z_L4 : SSt := mkSh 78 2 [(0, .sl 62), (10, .sl 62), (11, .int .i64), (12, .int .i64)] []
def LP_z8z_L4 (g : C_z8z) (n : Nat) : LPT A := fun ps => match ps with | [.d (.sl 62 p1), .d (.sl 62 p2), .d (.int .i64 p3), .d (.int .i64 p4)] => fun K => z8z_L4 g n p1 p2 p3 p4 (fun z0 z1 => K .ret (mkSt 78 2 [(0, .d (.sl 62 z0)), (2, .d (.int .i64 z1))] [])) (fun z0 => K (.exit 0) (mkSt 78 2 [(0, .d (.sl 62 z0))] [])) | _ => fun _ => none
def sh_z8z_L14 : SSt := mkSh 78 2 [(0, .sl 62), (65, .sl 62), (66, .int .i64), (67, .int .i64)] []
def LP_z8z_L14 (g : C_z8z) (n : Nat) : LPT A := fun ps => match ps with | [.d (.sl 62 p1), .d (.sl 62 p2), .d (.int .i64 p3), .d (.int .i64 p4)] => fun K => z8z_L14 g n p1 p2 p3 p4 (fun z0 => K .ret (mkSt 78 2 [(2, .d (.int .i64 z0))] [])) (K (.exit 3) (mkSt 78 2 [] [])) | _ => fun _ => none
noncomputable def code_41 : Code := (Tryz.f41.body).getD .skip
noncomputable def E_z8z (g : C_z8z) : Env A := mkE [(42, SS_z44z g.z44z), (80, SS_kit_IsKey g.kit_IsKey), (81, SS_z28z g.z28z)] [(4, [0]), (6, [1])] [(4, ⟨[0, 10, 11, 12], [], [], [], [], [], []⟩), (14, ⟨[0, 65, 66, 67], [], [], [], [], [], []⟩)] [(4, ⟨[0, 2], [], [], [], [], [], []⟩), (14, ⟨[2], [], [], [], [], [], []⟩)] [(4, pieceOf sh_z8z_L4 (LP_z8z_L4 g g.N)), (14, pieceOf sh_z8z_L14 (LP_z8z_L14 g g.N))] [] [] [] [] []
theorem ct_z8z [Fuel] : NatTab (E_z8z I_z8z).C := ct_of (P := Tryz.prog) (T := T) (.cons ok_z44z (.cons ok_kit_IsKey (.cons ok_z28z .nil))) (by kernel_rfl)
noncomputable def cb_z8z_L4 : Code := sub [1, 1, 0, 1, 0, 0] code_41
theorem s_z8z_L4 (g : C_z8z) (n : Nat) : StepOk (E_z8z g) g.N cb_z8z_L4 sh_z8z_L4 (LP_z8z_L4 g) n := by intro ps; unfold LP_z8z_L4; split; exact .inr fun R K => (by kernel_rfl); exact .inl fun R K => rfl
theorem lf_z8z_L4 [Fuel] : LoopFine (E_z8z I_z8z) NN cb_z8z_L4 := fine_loop sh_z8z_L4 (LP_z8z_L4 I_z8z) (by kernel_rfl) ct_z8z (cuts0 (fun _ => rfl) (by kernel_rfl)) (fun ps R K => by unfold LP_z8z_L4; split <;> (try unfold z8z_L4) <;> rfl) (s_z8z_L4 I_z8z)
noncomputable def cb_z8z_L14 : Code := sub [1, 1, 1, 0, 1, 0, 0] code_41
theorem s_z8z_L14 (g : C_z8z) (n : Nat) : StepOk (E_z8z g) g.N cb_z8z_L14 sh_z8z_L14 (LP_z8z_L14 g) n := by intro ps; unfold LP_z8z_L14; split; exact .inr fun R K => (by kernel_rfl); exact .inl fun R K => rfl
theorem lf_z8z_L14 [Fuel] : LoopFine (E_z8z I_z8z) NN cb_z8z_L14 := fine_loop sh_z8z_L14 (LP_z8z_L14 I_z8z) (by kernel_rfl) ct_z8z (cuts0 (fun _ => rfl) (by kernel_rfl)) (fun ps R K => by unfold LP_z8z_L14; split <;> (try unfold z8z_L14) <;> rfl) (s_z8z_L14 I_z8z)
theorem sm_z8z (g : C_z8z) : Same (SS_z8z (@z8z_ g)) (abody (E_z8z g) Tryz.f41 code_41 2 [] [.asis] g.N) := by intro args; unfold SS_z8z; split; exact .inr fun R k => (by kernel_rfl); exact .inl fun R k => rfl
theorem ok_z8z [Fuel] : Ok 41 (SS_z8z (@z8z _)) := okF_of std (.cons ok_z44z (.cons ok_kit_IsKey (.cons ok_z28z .nil))) ⟨rfl, rfl, by kernel_rfl, rfl, rfl, rfl⟩ (sm_z8z I_z8z) (cutsL (fun _ => rfl) (.cons lf_z8z_L4 (.cons lf_z8z_L14 .nil)) (by kernel_rfl)) Tryz.func41 (by kernel_rfl) (by kernel_rfl)
abbrev T_z55z : Type 1 := Int → {R : Type} → (Bool → Option R) → Option R
structure C_z55z where
 N : Nat
 z44z : T_z44z
def z55z_ (g : C_z55z) (a1 : Int) {R : Type} (k0 : Bool → Option R) : Option R :=
 (g.z44z a1 0 345686399999 (fun r2 => k0 (!r2)))
noncomputable def I_z55z [Fuel] : C_z55z := ⟨NN, @z44z _⟩
noncomputable def z55z [Fuel] : T_z55z := @z55z_ I_z55z
def SS_z55z (g : T_z55z) : Spec A := fun args => match args with | [.d (.int .i64 a1)] => fun k => g a1 (fun z0 => k (.d (.bool z0)) [.undef]) | _ => fun _ => none
noncomputable def code_74 : Code := (Tryz.f74.body).getD .skip
noncomputable def E_z55z (g : C_z55z) : Env A := mkE [(42, SS_z44z g.z44z)] [] [] [] [] [] [] [] [] []
theorem sm_z55z (g : C_z55z) : Same (SS_z55z (@z55z_ g)) (abody (E_z55z g) Tryz.f74 code_74 0 [] [.asis] g.N) := by intro args; unfold SS_z55z; split; exact .inr fun R k => (by kernel_rfl); exact .inl fun R k => rfl
theorem ok_z55z [Fuel] : Ok 74 (SS_z55z (@z55z _)) := okF_of std (.cons ok_z44z .nil) ⟨rfl, rfl, by kernel_rfl, rfl, rfl, rfl⟩ (sm_z55z I_z55z) (cuts0 (fun _ => rfl) (by kernel_rfl)) Tryz.func74 (by kernel_rfl) (by kernel_rfl)
abbrev T_z96z : Type 1 := Int → {R : Type} → (Bool → Option R) → Option R
def z96z_ (g : Nat) (a1 : Int) {R : Type} (k0 : Bool → Option R) : Option R :=
 (bif (decide (a1 ≥ 97)) then k0 (decide (a1 ≤ 122)) else k0 false)
noncomputable def z96z [Fuel] : T_z96z := @z96z_ NN
def SS_z96z (g : T_z96z) : Spec A := fun args => match args with | [.d (.int .u8 a1)] => fun k => g a1 (fun z0 => k (.d (.bool z0)) [.undef]) | _ => fun _ => none
noncomputable def code_199 : Code := (Tryz.f199.body).getD .skip
noncomputable def E_z96z (g : Nat) : Env A := mkE [] [] [] [] [] [] [] [] [] []
theorem sm_z96z (g : Nat) : Same (SS_z96z (@z96z_ g)) (abody (E_z96z g) Tryz.f199 code_199 0 [] [.asis] g) := by intro args; unfold SS_z96z; split; exact .inr fun R k => (by kernel_rfl); exact .inl fun R k => rfl
theorem ok_z96z [Fuel] : Ok 199 (SS_z96z (@z96z _)) := okF_of std .nil ⟨rfl, rfl, by kernel_rfl, rfl, rfl, rfl⟩ (sm_z96z NN) (cuts0 (fun _ => rfl) (by kernel_rfl)) Tryz.func199 (by kernel_rfl) (by kernel_rfl)
abbrev T_z92z : Type 1 := Int → {R : Type} → (Bool → Option R) → Option R
def z92z_ (g : Nat) (a1 : Int) {R : Type} (k0 : Bool → Option R) : Option R :=
 (bif (decide (a1 ≥ 48)) then k0 (decide (a1 ≤ 57)) else k0 false)
noncomputable def z92z [Fuel] : T_z92z := @z92z_ NN
def SS_z92z (g : T_z92z) : Spec A := fun args => match args with | [.d (.int .u8 a1)] => fun k => g a1 (fun z0 => k (.d (.bool z0)) [.undef]) | _ => fun _ => none
noncomputable def code_167 : Code := (Tryz.f167.body).getD .skip
noncomputable def E_z92z (g : Nat) : Env A := mkE [] [] [] [] [] [] [] [] [] []
theorem sm_z92z (g : Nat) : Same (SS_z92z (@z92z_ g)) (abody (E_z92z g) Tryz.f167 code_167 0 [] [.asis] g) := by intro args; unfold SS_z92z; split; exact .inr fun R k => (by kernel_rfl); exact .inl fun R k => rfl
theorem ok_z92z [Fuel] : Ok 167 (SS_z92z (@z92z _)) := okF_of std .nil ⟨rfl, rfl, by kernel_rfl, rfl, rfl, rfl⟩ (sm_z92z NN) (cuts0 (fun _ => rfl) (by kernel_rfl)) Tryz.func167 (by kernel_rfl) (by kernel_rfl)
end Go.Am
