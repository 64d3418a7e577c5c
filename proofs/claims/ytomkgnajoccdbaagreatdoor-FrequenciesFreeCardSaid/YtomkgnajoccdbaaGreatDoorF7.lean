/- The functions of the program as Lean functions, each shown to be what the code computes, part 7. No condition: lemmas for the claim. -/
import Derived.Test.YtomkgnajoccdbaaGreatDoorF0
import Derived.Test.YtomkgnajoccdbaaGreatDoorFSh
import Derived.Test.YtomkgnajoccdbaaGreatDoorF1
import Derived.Test.YtomkgnajoccdbaaGreatDoorF4
import Derived.Test.YtomkgnajoccdbaaGreatDoorF5
import Derived.Test.YtomkgnajoccdbaaGreatDoorF6
set_option linter.unusedVariables false
set_option maxRecDepth 100000
namespace Go.Am
open Go Go.Proofs
abbrev T_Q_SegmentsFault : Type 1 := List G_Segment → {R : Type} → (Int → Option R) → Option R
structure C_Q_SegmentsFault where
  N : Nat
  Q_Key : T_Q_Key
  Q_in : T_Q_in
  strings_Compare : T_strings_Compare
  slices_Compare__int : T_slices_Compare__int
  Q_timeFault : T_Q_timeFault
def Q_SegmentsFault_L13 (g : C_Q_SegmentsFault) : Nat → List G_Segment → Int → List G_Segment → Int → Int → List Int → Int → Int → G_Segment → {R : Type} → (List G_Segment → Int → Int → List G_Segment → Int → Int → G_Segment → Option R) → (List G_Segment → Int → List G_Segment → Int → Int → G_Segment → Option R) → Option R
  | 0, _, _, _, _, _, _, _, _, _, _, _, _ => none
  | n + 1, v42, v43, v44, v45, v46, v47, v48, v49, v50, _, e0, e1 => (bif (decide (v49 < v48)) then (get_ v47 v49 fun x54 => (g.Q_in x54 1 3 (fun r55 => (bif (!r55) then e0 v42 4 v43 v44 v45 v46 v50 else (bif (decide (v49 > 0)) then (get_ v50.f_Modes (w64 (v49 - 1)) fun x56 => (bif (decide (x54 ≤ x56)) then e0 v42 7 v43 v44 v45 v46 v50 else Q_SegmentsFault_L13 g n v42 v43 v44 v45 v46 v47 v48 (w64 (v49 + 1)) v50 e0 e1)) else Q_SegmentsFault_L13 g n v42 v43 v44 v45 v46 v47 v48 (w64 (v49 + 1)) v50 e0 e1))))) else e1 v42 v43 v44 v45 v46 v50)
def Q_SegmentsFault_L4 (g : C_Q_SegmentsFault) : Nat → List G_Segment → List G_Segment → Int → Int → {R : Type} → (Int → Option R) → Option R → Option R
  | 0, _, _, _, _, _, _, _ => none
  | n + 1, v2, v3, v4, v5, _, e0, e1 => (bif (decide (v5 < v4)) then (get_ v3 v5 fun x40 => (g.Q_Key x40.f_Class (fun r41 => (bif (!r41) then e0 5 else (bif (decide (x40.f_Low < 0)) then e0 1 else (bif (decide (x40.f_Low ≥ x40.f_High)) then e0 1 else (bif (decide (x40.f_High > 30000000000)) then e0 1 else (bif ((x40.f_Modes.length : Int) == 0) then e0 8 else (Q_SegmentsFault_L13 g g.N v2 v5 v3 v4 v5 x40.f_Modes (x40.f_Modes.length : Int) 0 x40 (fun e57 e58 e59 e60 e61 e62 e63 => e0 e58) (fun e64 e65 e66 e67 e68 e69 => (g.Q_timeFault e69.f_Time (fun r70 => (bif (r70 != 0) then e0 r70 else (bif (decide (e65 > 0)) then (get_ e64 (w64 (e65 - 1)) fun x71 => (g.strings_Compare x71.f_Class e69.f_Class (fun r72 => (bif (r72 == 0) then (g.slices_Compare__int [x71.f_Low, x71.f_High, x71.f_Time.f_From] [e69.f_Low, e69.f_High, e69.f_Time.f_From] (fun r73 => (bif (decide (r73 ≥ 0)) then e0 7 else Q_SegmentsFault_L4 g n e64 e66 e67 (w64 (e68 + 1)) e0 e1))) else (bif (decide (r72 ≥ 0)) then e0 7 else Q_SegmentsFault_L4 g n e64 e66 e67 (w64 (e68 + 1)) e0 e1))))) else Q_SegmentsFault_L4 g n e64 e66 e67 (w64 (e68 + 1)) e0 e1)))))))))))))) else e1)
def Q_SegmentsFault_ (g : C_Q_SegmentsFault) (a1 : List G_Segment) {R : Type} (k0 : Int → Option R) : Option R :=
  (bif (decide ((a1.length : Int) > 500)) then k0 2 else (Q_SegmentsFault_L4 g g.N a1 a1 (a1.length : Int) 0 (fun e74 => k0 e74) (k0 0)))
noncomputable def I_Q_SegmentsFault [Fuel] : C_Q_SegmentsFault := ⟨NN, @Q_Key _, @Q_in _, @strings_Compare _, @slices_Compare__int _, @Q_timeFault _⟩
noncomputable def Q_SegmentsFault [Fuel] : T_Q_SegmentsFault := @Q_SegmentsFault_ I_Q_SegmentsFault
def SS_Q_SegmentsFault (g : T_Q_SegmentsFault) : Spec A := fun args => match args with | [.d (.sl 115 a1)] => fun k => g a1 (fun z0 => k (.d (.int .i64 z0)) [.undef]) | _ => fun _ => none
def sh_Q_SegmentsFault_L13 : SSt := mkSh 110 4 [(0, .sl 115), (3, .int .i64), (4, .ptr 0 0), (13, .sl 115), (14, .int .i64), (15, .int .i64), (47, .sl 3), (48, .int .i64), (49, .int .i64)] [(0, .box [.str, .int .i64, .int .i64, .sl 3, .int .i64, .int .i64])]
def LP_Q_SegmentsFault_L13 (g : C_Q_SegmentsFault) (n : Nat) : LPT A := fun ps => match ps with | [.d (.sl 115 p1), .d (.int .i64 p2), .d (.sl 115 p3), .d (.int .i64 p4), .d (.int .i64 p5), .d (.sl 3 p6), .d (.int .i64 p7), .d (.int .i64 p8), .d (.str p9), .d (.int .i64 p10), .d (.int .i64 p11), .d (.sl 3 p12), .d (.int .i64 p13), .d (.int .i64 p14)] => fun K => Q_SegmentsFault_L13 g n p1 p2 p3 p4 p5 p6 p7 p8 ⟨p9, p10, p11, p12, ⟨p13, p14⟩⟩ (fun z0 z1 z2 z3 z4 z5 z6 => K .ret (mkSt 110 4 [(0, .d (.sl 115 z0)), (2, .d (.int .i64 z1)), (3, .d (.int .i64 z2)), (4, .ptr 0 0), (13, .d (.sl 115 z3)), (14, .d (.int .i64 z4)), (15, .d (.int .i64 z5))] [(0, some (.box [.d (.str z6.f_Class), .d (.int .i64 z6.f_Low), .d (.int .i64 z6.f_High), .d (.sl 3 z6.f_Modes), .d (.int .i64 z6.f_Time.f_From), .d (.int .i64 z6.f_Time.f_To)]))])) (fun z0 z1 z2 z3 z4 z5 => K (.exit 3) (mkSt 110 4 [(0, .d (.sl 115 z0)), (3, .d (.int .i64 z1)), (4, .ptr 0 0), (13, .d (.sl 115 z2)), (14, .d (.int .i64 z3)), (15, .d (.int .i64 z4))] [(0, some (.box [.d (.str z5.f_Class), .d (.int .i64 z5.f_Low), .d (.int .i64 z5.f_High), .d (.sl 3 z5.f_Modes), .d (.int .i64 z5.f_Time.f_From), .d (.int .i64 z5.f_Time.f_To)]))])) | _ => fun _ => none
def sh_Q_SegmentsFault_L4 : SSt := mkSh 110 4 [(0, .sl 115), (13, .sl 115), (14, .int .i64), (15, .int .i64)] []
def LP_Q_SegmentsFault_L4 (g : C_Q_SegmentsFault) (n : Nat) : LPT A := fun ps => match ps with | [.d (.sl 115 p1), .d (.sl 115 p2), .d (.int .i64 p3), .d (.int .i64 p4)] => fun K => Q_SegmentsFault_L4 g n p1 p2 p3 p4 (fun z0 => K .ret (mkSt 110 4 [(2, .d (.int .i64 z0))] [])) (K (.exit 0) (mkSt 110 4 [] [])) | _ => fun _ => none
noncomputable def code_34 : Code := (Tryz.f34.body).getD .skip
noncomputable def E_Q_SegmentsFault (g : C_Q_SegmentsFault) : Env A := mkE [(66, SS_Q_Key g.Q_Key), (67, SS_Q_in g.Q_in), (79, SS_strings_Compare g.strings_Compare), (82, SS_slices_Compare__int g.slices_Compare__int), (91, SS_Q_timeFault g.Q_timeFault)] [(4, [0]), (8, [1]), (97, [2]), (105, [3])] [(13, ⟨[0, 3, 4, 13, 14, 15, 47, 48, 49], [], [0], []⟩), (4, ⟨[0, 13, 14, 15], [], [], []⟩)] [(13, ⟨[0, 2, 3, 4, 13, 14, 15], [], [0], []⟩), (4, ⟨[2], [], [], []⟩)] [(13, pieceOf sh_Q_SegmentsFault_L13 (LP_Q_SegmentsFault_L13 g g.N)), (4, pieceOf sh_Q_SegmentsFault_L4 (LP_Q_SegmentsFault_L4 g g.N))] [] [] [] [] []
theorem ct_Q_SegmentsFault [Fuel] : NatTab (E_Q_SegmentsFault I_Q_SegmentsFault).C := ct_of (P := Tryz.prog) (T := T) (.cons ok_Q_Key (.cons ok_Q_in (.cons ok_strings_Compare (.cons ok_slices_Compare__int (.cons ok_Q_timeFault .nil))))) (by kernel_rfl)
noncomputable def cb_Q_SegmentsFault_L13 : Code := sub [1, 1, 0, 1, 0, 0, 1, 1, 0, 0, 1, 1, 0, 1, 0, 0] code_34
theorem s_Q_SegmentsFault_L13 (g : C_Q_SegmentsFault) (n : Nat) : StepOk (E_Q_SegmentsFault g) g.N cb_Q_SegmentsFault_L13 sh_Q_SegmentsFault_L13 (LP_Q_SegmentsFault_L13 g) n := by intro ps; unfold LP_Q_SegmentsFault_L13; split; exact .inr fun R K => (by kernel_rfl); exact .inl fun R K => rfl
theorem lf_Q_SegmentsFault_L13 [Fuel] : LoopFine (E_Q_SegmentsFault I_Q_SegmentsFault) NN cb_Q_SegmentsFault_L13 := fine_loop sh_Q_SegmentsFault_L13 (LP_Q_SegmentsFault_L13 I_Q_SegmentsFault) (by kernel_rfl) ct_Q_SegmentsFault (cuts0 (fun _ => rfl) (by kernel_rfl)) (fun ps R K => by unfold LP_Q_SegmentsFault_L13; split <;> (try unfold Q_SegmentsFault_L13) <;> rfl) (s_Q_SegmentsFault_L13 I_Q_SegmentsFault)
noncomputable def cb_Q_SegmentsFault_L4 : Code := sub [1, 1, 0, 1, 0, 0] code_34
theorem s_Q_SegmentsFault_L4 (g : C_Q_SegmentsFault) (n : Nat) : StepOk (E_Q_SegmentsFault g) g.N cb_Q_SegmentsFault_L4 sh_Q_SegmentsFault_L4 (LP_Q_SegmentsFault_L4 g) n := by intro ps; unfold LP_Q_SegmentsFault_L4; split; exact .inr fun R K => (by kernel_rfl); exact .inl fun R K => rfl
theorem lf_Q_SegmentsFault_L4 [Fuel] : LoopFine (E_Q_SegmentsFault I_Q_SegmentsFault) NN cb_Q_SegmentsFault_L4 := fine_loop sh_Q_SegmentsFault_L4 (LP_Q_SegmentsFault_L4 I_Q_SegmentsFault) (by kernel_rfl) ct_Q_SegmentsFault (cutsL (fun _ => rfl) (.cons lf_Q_SegmentsFault_L13 .nil) (by kernel_rfl)) (fun ps R K => by unfold LP_Q_SegmentsFault_L4; split <;> (try unfold Q_SegmentsFault_L4) <;> rfl) (s_Q_SegmentsFault_L4 I_Q_SegmentsFault)
theorem sm_Q_SegmentsFault (g : C_Q_SegmentsFault) : Same (SS_Q_SegmentsFault (@Q_SegmentsFault_ g)) (abody (E_Q_SegmentsFault g) Tryz.f34 code_34 4 [] [.asis] g.N) := by intro args; unfold SS_Q_SegmentsFault; split; exact .inr fun R k => (by kernel_rfl); exact .inl fun R k => rfl
theorem ok_Q_SegmentsFault [Fuel] : Ok 34 (SS_Q_SegmentsFault (@Q_SegmentsFault _)) := okF_of std (.cons ok_Q_Key (.cons ok_Q_in (.cons ok_strings_Compare (.cons ok_slices_Compare__int (.cons ok_Q_timeFault .nil))))) ⟨rfl, rfl, by kernel_rfl, rfl, rfl, rfl⟩ (sm_Q_SegmentsFault I_Q_SegmentsFault) (cutsL (fun _ => rfl) (.cons lf_Q_SegmentsFault_L13 (.cons lf_Q_SegmentsFault_L4 .nil)) (by kernel_rfl)) Tryz.func34 (by kernel_rfl) (by kernel_rfl)
abbrev T_law_when : Type 1 := Bool → Int → {R : Type} → (Int → Option R) → Option R
def law_when_ (g : Nat) (a1 : Bool) (a2 : Int) {R : Type} (k0 : Int → Option R) : Option R :=
  (bif a1 then k0 a2 else k0 0)
noncomputable def law_when [Fuel] : T_law_when := @law_when_ NN
def SS_law_when (g : T_law_when) : Spec A := fun args => match args with | [.d (.bool a1), .d (.int .i64 a2)] => fun k => g a1 a2 (fun z0 => k (.d (.int .i64 z0)) [.undef, .undef]) | _ => fun _ => none
noncomputable def code_18 : Code := (Tryz.f18.body).getD .skip
noncomputable def E_law_when (g : Nat) : Env A := mkE [] [] [] [] [] [] [] [] [] []
theorem sm_law_when (g : Nat) : Same (SS_law_when (@law_when_ g)) (abody (E_law_when g) Tryz.f18 code_18 0 [] [.asis] g) := by intro args; unfold SS_law_when; split; exact .inr fun R k => (by kernel_rfl); exact .inl fun R k => rfl
theorem ok_law_when [Fuel] : Ok 18 (SS_law_when (@law_when _)) := okF_of std .nil ⟨rfl, rfl, by kernel_rfl, rfl, rfl, rfl⟩ (sm_law_when NN) (cuts0 (fun _ => rfl) (by kernel_rfl)) Tryz.func18 (by kernel_rfl) (by kernel_rfl)
abbrev T_law_nameFault : Type 1 := List UInt8 → {R : Type} → (Int → Option R) → Option R
structure C_law_nameFault where
  N : Nat
  law_when : T_law_when
  Q_Key : T_Q_Key
def law_nameFault_ (g : C_law_nameFault) (a1 : List UInt8) {R : Type} (k0 : Int → Option R) : Option R :=
  (g.Q_Key a1 (fun r2 => (g.law_when (!r2) 5 (fun r3 => k0 r3))))
noncomputable def I_law_nameFault [Fuel] : C_law_nameFault := ⟨NN, @law_when _, @Q_Key _⟩
noncomputable def law_nameFault [Fuel] : T_law_nameFault := @law_nameFault_ I_law_nameFault
def SS_law_nameFault (g : T_law_nameFault) : Spec A := fun args => match args with | [.d (.str a1)] => fun k => g a1 (fun z0 => k (.d (.int .i64 z0)) [.undef]) | _ => fun _ => none
noncomputable def code_15 : Code := (Tryz.f15.body).getD .skip
noncomputable def E_law_nameFault (g : C_law_nameFault) : Env A := mkE [(18, SS_law_when g.law_when), (66, SS_Q_Key g.Q_Key)] [] [] [] [] [] [] [] [] []
theorem sm_law_nameFault (g : C_law_nameFault) : Same (SS_law_nameFault (@law_nameFault_ g)) (abody (E_law_nameFault g) Tryz.f15 code_15 0 [] [.asis] g.N) := by intro args; unfold SS_law_nameFault; split; exact .inr fun R k => (by kernel_rfl); exact .inl fun R k => rfl
theorem ok_law_nameFault [Fuel] : Ok 15 (SS_law_nameFault (@law_nameFault _)) := okF_of std (.cons ok_law_when (.cons ok_Q_Key .nil)) ⟨rfl, rfl, by kernel_rfl, rfl, rfl, rfl⟩ (sm_law_nameFault I_law_nameFault) (cuts0 (fun _ => rfl) (by kernel_rfl)) Tryz.func15 (by kernel_rfl) (by kernel_rfl)
abbrev T_law_modeFault : Type 1 := Int → {R : Type} → (Int → Option R) → Option R
structure C_law_modeFault where
  N : Nat
  law_when : T_law_when
def law_modeFault_ (g : C_law_modeFault) (a1 : Int) {R : Type} (k0 : Int → Option R) : Option R :=
  (bif (decide (a1 < 1)) then (g.law_when true 4 (fun r2 => k0 r2)) else (g.law_when (decide (a1 > 3)) 4 (fun r3 => k0 r3)))
noncomputable def I_law_modeFault [Fuel] : C_law_modeFault := ⟨NN, @law_when _⟩
noncomputable def law_modeFault [Fuel] : T_law_modeFault := @law_modeFault_ I_law_modeFault
def SS_law_modeFault (g : T_law_modeFault) : Spec A := fun args => match args with | [.d (.int .i64 a1)] => fun k => g a1 (fun z0 => k (.d (.int .i64 z0)) [.undef]) | _ => fun _ => none
noncomputable def code_35 : Code := (Tryz.f35.body).getD .skip
noncomputable def E_law_modeFault (g : C_law_modeFault) : Env A := mkE [(18, SS_law_when g.law_when)] [] [] [] [] [] [] [] [] []
theorem sm_law_modeFault (g : C_law_modeFault) : Same (SS_law_modeFault (@law_modeFault_ g)) (abody (E_law_modeFault g) Tryz.f35 code_35 0 [] [.asis] g.N) := by intro args; unfold SS_law_modeFault; split; exact .inr fun R k => (by kernel_rfl); exact .inl fun R k => rfl
theorem ok_law_modeFault [Fuel] : Ok 35 (SS_law_modeFault (@law_modeFault _)) := okF_of std (.cons ok_law_when .nil) ⟨rfl, rfl, by kernel_rfl, rfl, rfl, rfl⟩ (sm_law_modeFault I_law_modeFault) (cuts0 (fun _ => rfl) (by kernel_rfl)) Tryz.func35 (by kernel_rfl) (by kernel_rfl)
abbrev T_law_widthFault : Type 1 := Int → {R : Type} → (Int → Option R) → Option R
structure C_law_widthFault where
  N : Nat
  law_when : T_law_when
def law_widthFault_ (g : C_law_widthFault) (a1 : Int) {R : Type} (k0 : Int → Option R) : Option R :=
  (bif (decide (a1 < 1)) then (g.law_when true 1 (fun r2 => k0 r2)) else (g.law_when (decide (a1 > 100000)) 1 (fun r3 => k0 r3)))
noncomputable def I_law_widthFault [Fuel] : C_law_widthFault := ⟨NN, @law_when _⟩
noncomputable def law_widthFault [Fuel] : T_law_widthFault := @law_widthFault_ I_law_widthFault
def SS_law_widthFault (g : T_law_widthFault) : Spec A := fun args => match args with | [.d (.int .i64 a1)] => fun k => g a1 (fun z0 => k (.d (.int .i64 z0)) [.undef]) | _ => fun _ => none
noncomputable def code_36 : Code := (Tryz.f36.body).getD .skip
noncomputable def E_law_widthFault (g : C_law_widthFault) : Env A := mkE [(18, SS_law_when g.law_when)] [] [] [] [] [] [] [] [] []
theorem sm_law_widthFault (g : C_law_widthFault) : Same (SS_law_widthFault (@law_widthFault_ g)) (abody (E_law_widthFault g) Tryz.f36 code_36 0 [] [.asis] g.N) := by intro args; unfold SS_law_widthFault; split; exact .inr fun R k => (by kernel_rfl); exact .inl fun R k => rfl
theorem ok_law_widthFault [Fuel] : Ok 36 (SS_law_widthFault (@law_widthFault _)) := okF_of std (.cons ok_law_when .nil) ⟨rfl, rfl, by kernel_rfl, rfl, rfl, rfl⟩ (sm_law_widthFault I_law_widthFault) (cuts0 (fun _ => rfl) (by kernel_rfl)) Tryz.func36 (by kernel_rfl) (by kernel_rfl)
abbrev T_Q_Moment : Type 1 := Int → {R : Type} → (Bool → Option R) → Option R
structure C_Q_Moment where
  N : Nat
  Q_in : T_Q_in
def Q_Moment_ (g : C_Q_Moment) (a1 : Int) {R : Type} (k0 : Bool → Option R) : Option R :=
  (g.Q_in a1 0 345686399999 (fun r2 => k0 r2))
noncomputable def I_Q_Moment [Fuel] : C_Q_Moment := ⟨NN, @Q_in _⟩
noncomputable def Q_Moment [Fuel] : T_Q_Moment := @Q_Moment_ I_Q_Moment
def SS_Q_Moment (g : T_Q_Moment) : Spec A := fun args => match args with | [.d (.int .i64 a1)] => fun k => g a1 (fun z0 => k (.d (.bool z0)) [.undef]) | _ => fun _ => none
noncomputable def code_92 : Code := (Tryz.f92.body).getD .skip
noncomputable def E_Q_Moment (g : C_Q_Moment) : Env A := mkE [(67, SS_Q_in g.Q_in)] [] [] [] [] [] [] [] [] []
theorem sm_Q_Moment (g : C_Q_Moment) : Same (SS_Q_Moment (@Q_Moment_ g)) (abody (E_Q_Moment g) Tryz.f92 code_92 0 [] [.asis] g.N) := by intro args; unfold SS_Q_Moment; split; exact .inr fun R k => (by kernel_rfl); exact .inl fun R k => rfl
theorem ok_Q_Moment [Fuel] : Ok 92 (SS_Q_Moment (@Q_Moment _)) := okF_of std (.cons ok_Q_in .nil) ⟨rfl, rfl, by kernel_rfl, rfl, rfl, rfl⟩ (sm_Q_Moment I_Q_Moment) (cuts0 (fun _ => rfl) (by kernel_rfl)) Tryz.func92 (by kernel_rfl) (by kernel_rfl)
abbrev T_Q_MomentFault : Type 1 := Int → {R : Type} → (Int → Option R) → Option R
structure C_Q_MomentFault where
  N : Nat
  Q_Moment : T_Q_Moment
def Q_MomentFault_ (g : C_Q_MomentFault) (a1 : Int) {R : Type} (k0 : Int → Option R) : Option R :=
  (g.Q_Moment a1 (fun r2 => (bif (!r2) then k0 1 else k0 0)))
noncomputable def I_Q_MomentFault [Fuel] : C_Q_MomentFault := ⟨NN, @Q_Moment _⟩
noncomputable def Q_MomentFault [Fuel] : T_Q_MomentFault := @Q_MomentFault_ I_Q_MomentFault
def SS_Q_MomentFault (g : T_Q_MomentFault) : Spec A := fun args => match args with | [.d (.int .i64 a1)] => fun k => g a1 (fun z0 => k (.d (.int .i64 z0)) [.undef]) | _ => fun _ => none
noncomputable def code_37 : Code := (Tryz.f37.body).getD .skip
noncomputable def E_Q_MomentFault (g : C_Q_MomentFault) : Env A := mkE [(92, SS_Q_Moment g.Q_Moment)] [] [] [] [] [] [] [] [] []
theorem sm_Q_MomentFault (g : C_Q_MomentFault) : Same (SS_Q_MomentFault (@Q_MomentFault_ g)) (abody (E_Q_MomentFault g) Tryz.f37 code_37 0 [] [.asis] g.N) := by intro args; unfold SS_Q_MomentFault; split; exact .inr fun R k => (by kernel_rfl); exact .inl fun R k => rfl
theorem ok_Q_MomentFault [Fuel] : Ok 37 (SS_Q_MomentFault (@Q_MomentFault _)) := okF_of std (.cons ok_Q_Moment .nil) ⟨rfl, rfl, by kernel_rfl, rfl, rfl, rfl⟩ (sm_Q_MomentFault I_Q_MomentFault) (cuts0 (fun _ => rfl) (by kernel_rfl)) Tryz.func37 (by kernel_rfl) (by kernel_rfl)
abbrev T_law_errs : Type 1 := List Int → {R : Type} → (Int → Option R) → Option R
def law_errs_L2 (g : Nat) : Nat → List Int → Int → Int → {R : Type} → (Int → Option R) → Option R → Option R
  | 0, _, _, _, _, _, _ => none
  | n + 1, v2, v3, v4, _, e0, e1 => (bif (decide (v4 < v3)) then (get_ v2 v4 fun x6 => (bif (x6 != 0) then e0 x6 else law_errs_L2 g n v2 v3 (w64 (v4 + 1)) e0 e1)) else e1)
def law_errs_ (g : Nat) (a1 : List Int) {R : Type} (k0 : Int → Option R) : Option R :=
  (law_errs_L2 g g a1 (a1.length : Int) 0 (fun e7 => k0 e7) (k0 0))
noncomputable def law_errs [Fuel] : T_law_errs := @law_errs_ NN
def SS_law_errs (g : T_law_errs) : Spec A := fun args => match args with | [.d (.sl 35 a1)] => fun k => g a1 (fun z0 => k (.d (.int .i64 z0)) [.undef]) | _ => fun _ => none
def sh_law_errs_L2 : SSt := mkSh 15 0 [(5, .sl 35), (6, .int .i64), (7, .int .i64)] []
def LP_law_errs_L2 (g : Nat) (n : Nat) : LPT A := fun ps => match ps with | [.d (.sl 35 p1), .d (.int .i64 p2), .d (.int .i64 p3)] => fun K => law_errs_L2 g n p1 p2 p3 (fun z0 => K .ret (mkSt 15 0 [(2, .d (.int .i64 z0))] [])) (K (.exit 0) (mkSt 15 0 [] [])) | _ => fun _ => none
noncomputable def code_14 : Code := (Tryz.f14.body).getD .skip
noncomputable def E_law_errs (g : Nat) : Env A := mkE [] [] [(2, ⟨[5, 6, 7], [], [], []⟩)] [(2, ⟨[2], [], [], []⟩)] [(2, pieceOf sh_law_errs_L2 (LP_law_errs_L2 g g))] [] [] [] [] []
theorem ct_law_errs [Fuel] : NatTab (E_law_errs NN).C := ct_of (P := Tryz.prog) (T := T) .nil (by kernel_rfl)
noncomputable def cb_law_errs_L2 : Code := sub [1, 0, 1, 0, 0] code_14
theorem s_law_errs_L2 (g : Nat) (n : Nat) : StepOk (E_law_errs g) g cb_law_errs_L2 sh_law_errs_L2 (LP_law_errs_L2 g) n := by intro ps; unfold LP_law_errs_L2; split; exact .inr fun R K => (by kernel_rfl); exact .inl fun R K => rfl
theorem lf_law_errs_L2 [Fuel] : LoopFine (E_law_errs NN) NN cb_law_errs_L2 := fine_loop sh_law_errs_L2 (LP_law_errs_L2 NN) (by kernel_rfl) ct_law_errs (cuts0 (fun _ => rfl) (by kernel_rfl)) (fun ps R K => by unfold LP_law_errs_L2; split <;> (try unfold law_errs_L2) <;> rfl) (s_law_errs_L2 NN)
theorem sm_law_errs (g : Nat) : Same (SS_law_errs (@law_errs_ g)) (abody (E_law_errs g) Tryz.f14 code_14 0 [] [.asis] g) := by intro args; unfold SS_law_errs; split; exact .inr fun R k => (by kernel_rfl); exact .inl fun R k => rfl
theorem ok_law_errs [Fuel] : Ok 14 (SS_law_errs (@law_errs _)) := okF_of std .nil ⟨rfl, rfl, by kernel_rfl, rfl, rfl, rfl⟩ (sm_law_errs NN) (cutsL (fun _ => rfl) (.cons lf_law_errs_L2 .nil) (by kernel_rfl)) Tryz.func14 (by kernel_rfl) (by kernel_rfl)
abbrev T_law_hertzFault : Type 1 := Int → {R : Type} → (Int → Option R) → Option R
structure C_law_hertzFault where
  N : Nat
  law_when : T_law_when
def law_hertzFault_ (g : C_law_hertzFault) (a1 : Int) {R : Type} (k0 : Int → Option R) : Option R :=
  (bif (decide (a1 < 0)) then (g.law_when true 1 (fun r2 => k0 r2)) else (g.law_when (decide (a1 > 30000000000)) 1 (fun r3 => k0 r3)))
noncomputable def I_law_hertzFault [Fuel] : C_law_hertzFault := ⟨NN, @law_when _⟩
noncomputable def law_hertzFault [Fuel] : T_law_hertzFault := @law_hertzFault_ I_law_hertzFault
def SS_law_hertzFault (g : T_law_hertzFault) : Spec A := fun args => match args with | [.d (.int .i64 a1)] => fun k => g a1 (fun z0 => k (.d (.int .i64 z0)) [.undef]) | _ => fun _ => none
noncomputable def code_38 : Code := (Tryz.f38.body).getD .skip
noncomputable def E_law_hertzFault (g : C_law_hertzFault) : Env A := mkE [(18, SS_law_when g.law_when)] [] [] [] [] [] [] [] [] []
theorem sm_law_hertzFault (g : C_law_hertzFault) : Same (SS_law_hertzFault (@law_hertzFault_ g)) (abody (E_law_hertzFault g) Tryz.f38 code_38 0 [] [.asis] g.N) := by intro args; unfold SS_law_hertzFault; split; exact .inr fun R k => (by kernel_rfl); exact .inl fun R k => rfl
theorem ok_law_hertzFault [Fuel] : Ok 38 (SS_law_hertzFault (@law_hertzFault _)) := okF_of std (.cons ok_law_when .nil) ⟨rfl, rfl, by kernel_rfl, rfl, rfl, rfl⟩ (sm_law_hertzFault I_law_hertzFault) (cuts0 (fun _ => rfl) (by kernel_rfl)) Tryz.func38 (by kernel_rfl) (by kernel_rfl)
abbrev T_Q_uses : Type 1 := Int → Int → {R : Type} → (G_Row → Option R) → Option R
def Q_uses_ (g : Nat) (a1 a2 : Int) {R : Type} (k0 : G_Row → Option R) : Option R :=
  k0 (⟨(w64 (a1 - (w64 (Int.tdiv a2 2)))), (w64 ((w64 (a1 - (w64 (Int.tdiv a2 2)))) + a2))⟩ : G_Row)
noncomputable def Q_uses [Fuel] : T_Q_uses := @Q_uses_ NN
def SS_Q_uses (g : T_Q_uses) : Spec A := fun args => match args with | [.d (.int .i64 a1), .d (.int .i64 a2)] => fun k => g a1 a2 (fun z0 => k (.agg [.d (.int .i64 z0.f_From), .d (.int .i64 z0.f_To)]) [.undef, .undef]) | _ => fun _ => none
noncomputable def code_94 : Code := (Tryz.f94.body).getD .skip
noncomputable def E_Q_uses (g : Nat) : Env A := mkE [] [(4, [0])] [] [] [] [] [] [] [] []
theorem sm_Q_uses (g : Nat) : Same (SS_Q_uses (@Q_uses_ g)) (abody (E_Q_uses g) Tryz.f94 code_94 1 [] [.asis] g) := by intro args; unfold SS_Q_uses; split; exact .inr fun R k => (by kernel_rfl); exact .inl fun R k => rfl
theorem ok_Q_uses [Fuel] : Ok 94 (SS_Q_uses (@Q_uses _)) := okF_of std .nil ⟨rfl, rfl, by kernel_rfl, rfl, rfl, rfl⟩ (sm_Q_uses NN) (cuts0 (fun _ => rfl) (by kernel_rfl)) Tryz.func94 (by kernel_rfl) (by kernel_rfl)
abbrev T_Q_near : Type 1 := G_Busy → G_Busy → {R : Type} → (Bool → Option R) → Option R
structure C_Q_near where
  N : Nat
  Q_uses : T_Q_uses
def Q_near_ (g : C_Q_near) (a1 a2 : G_Busy) {R : Type} (k0 : Bool → Option R) : Option R :=
  (g.Q_uses a1.f_Hertz a1.f_Width (fun r3 => (g.Q_uses a2.f_Hertz a2.f_Width (fun r4 => (bif (decide ((if r4.f_From > r3.f_From then r4.f_From else r3.f_From) < (if r4.f_To < r3.f_To then r4.f_To else r3.f_To))) then k0 (decide ((if a2.f_Time.f_From > a1.f_Time.f_From then a2.f_Time.f_From else a1.f_Time.f_From) < (if a2.f_Time.f_To < a1.f_Time.f_To then a2.f_Time.f_To else a1.f_Time.f_To))) else k0 false)))))
noncomputable def I_Q_near [Fuel] : C_Q_near := ⟨NN, @Q_uses _⟩
noncomputable def Q_near [Fuel] : T_Q_near := @Q_near_ I_Q_near
def SS_Q_near (g : T_Q_near) : Spec A := fun args => match args with | [.agg [.d (.str a1), .d (.int .i64 a2), .d (.int .i64 a3), .d (.int .i64 a4), .d (.int .i64 a5)], .agg [.d (.str a6), .d (.int .i64 a7), .d (.int .i64 a8), .d (.int .i64 a9), .d (.int .i64 a10)]] => fun k => g ⟨a1, a2, a3, ⟨a4, a5⟩⟩ ⟨a6, a7, a8, ⟨a9, a10⟩⟩ (fun z0 => k (.d (.bool z0)) [.undef, .undef]) | _ => fun _ => none
noncomputable def code_93 : Code := (Tryz.f93.body).getD .skip
noncomputable def E_Q_near (g : C_Q_near) : Env A := mkE [(94, SS_Q_uses g.Q_uses)] [(2, [0]), (3, [1]), (5, [2]), (6, [3])] [] [] [] [] [] [] [] []
theorem sm_Q_near (g : C_Q_near) : Same (SS_Q_near (@Q_near_ g)) (abody (E_Q_near g) Tryz.f93 code_93 4 [] [.asis] g.N) := by intro args; unfold SS_Q_near; split; exact .inr fun R k => (by kernel_rfl); exact .inl fun R k => rfl
theorem ok_Q_near [Fuel] : Ok 93 (SS_Q_near (@Q_near _)) := okF_of std (.cons ok_Q_uses .nil) ⟨rfl, rfl, by kernel_rfl, rfl, rfl, rfl⟩ (sm_Q_near I_Q_near) (cuts0 (fun _ => rfl) (by kernel_rfl)) Tryz.func93 (by kernel_rfl) (by kernel_rfl)
abbrev T_Q_NearPairs : Type 1 := List G_Busy → {R : Type} → (List G_Pair → Option R) → Option R
structure C_Q_NearPairs where
  N : Nat
  Q_near : T_Q_near
def Q_NearPairs_L6 (g : C_Q_NearPairs) : Nat → List G_Busy → List G_Busy → Int → Int → List G_Busy → Int → Int → G_Busy → List G_Pair → {R : Type} → (List G_Busy → List G_Busy → Int → Int → List G_Pair → Option R) → Option R
  | 0, _, _, _, _, _, _, _, _, _, _, _ => none
  | n + 1, v27, v28, v29, v30, v31, v32, v33, v34, v35, _, e0 => (bif (decide (v33 < v32)) then (get_ v31 v33 fun x38 => (bif (!(v34.f_Who == x38.f_Who)) then (g.Q_near v34 x38 (fun r39 => (bif r39 then (bif (decide ((v35.length + [(⟨v34.f_Who, x38.f_Who⟩ : G_Pair)].length) * 32 ≤ roomBytes')) then Q_NearPairs_L6 g n v27 v28 v29 v30 v31 v32 (w64 (v33 + 1)) v34 (v35 ++ [(⟨v34.f_Who, x38.f_Who⟩ : G_Pair)]) e0 else none) else Q_NearPairs_L6 g n v27 v28 v29 v30 v31 v32 (w64 (v33 + 1)) v34 v35 e0))) else Q_NearPairs_L6 g n v27 v28 v29 v30 v31 v32 (w64 (v33 + 1)) v34 v35 e0)) else e0 v27 v28 v29 v30 v35)
def Q_NearPairs_L3 (g : C_Q_NearPairs) : Nat → List G_Busy → List G_Busy → Int → Int → List G_Pair → {R : Type} → (List G_Pair → Option R) → Option R
  | 0, _, _, _, _, _, _, _ => none
  | n + 1, v2, v3, v4, v5, v6, _, e0 => (bif (decide (v5 < v4)) then (get_ v3 v5 fun x26 => (bif (decide (0 ≤ (w64 (v5 + 1))) && decide ((w64 (v5 + 1)) ≤ (v2.length : Int))) then (Q_NearPairs_L6 g g.N v2 v3 v4 v5 (v2.drop ((w64 (v5 + 1)) : Int).toNat) ((v2.drop ((w64 (v5 + 1)) : Int).toNat).length : Int) 0 x26 v6 (fun e40 e41 e42 e43 e44 => Q_NearPairs_L3 g n e40 e41 e42 (w64 (e43 + 1)) e44 e0)) else none)) else e0 v6)
def Q_NearPairs_ (g : C_Q_NearPairs) (a1 : List G_Busy) {R : Type} (k0 : List G_Pair → Option R) : Option R :=
  (Q_NearPairs_L3 g g.N a1 a1 (a1.length : Int) 0 [] (fun e45 => k0 e45))
noncomputable def I_Q_NearPairs [Fuel] : C_Q_NearPairs := ⟨NN, @Q_near _⟩
noncomputable def Q_NearPairs [Fuel] : T_Q_NearPairs := @Q_NearPairs_ I_Q_NearPairs
def SS_Q_NearPairs (g : T_Q_NearPairs) : Spec A := fun args => match args with | [.d (.sl 120 a1)] => fun k => g a1 (fun z0 => k (.arr 77 z0) [.undef]) | _ => fun _ => none
def sh_Q_NearPairs_L6 : SSt := mkSh 45 6 [(0, .sl 120), (3, .own 77 2), (5, .ptr 1 0), (8, .sl 120), (9, .int .i64), (10, .int .i64), (18, .sl 120), (19, .int .i64), (20, .int .i64)] [(1, .box [.str, .int .i64, .int .i64, .int .i64, .int .i64]), (2, .row 77)]
def LP_Q_NearPairs_L6 (g : C_Q_NearPairs) (n : Nat) : LPT A := fun ps => match ps with | [.d (.sl 120 p1), .d (.sl 120 p2), .d (.int .i64 p3), .d (.int .i64 p4), .d (.sl 120 p5), .d (.int .i64 p6), .d (.int .i64 p7), .d (.str p8), .d (.int .i64 p9), .d (.int .i64 p10), .d (.int .i64 p11), .d (.int .i64 p12), .d (.sl 77 p13)] => fun K => Q_NearPairs_L6 g n p1 p2 p3 p4 p5 p6 p7 ⟨p8, p9, p10, ⟨p11, p12⟩⟩ p13 (fun z0 z1 z2 z3 z4 => K (.exit 2) (mkSt 45 6 [(0, .d (.sl 120 z0)), (3, .own 77 2), (8, .d (.sl 120 z1)), (9, .d (.int .i64 z2)), (10, .d (.int .i64 z3))] [(2, some (.row 77 z4))])) | _ => fun _ => none
def sh_Q_NearPairs_L3 : SSt := mkSh 45 6 [(0, .sl 120), (3, .own 77 0), (8, .sl 120), (9, .int .i64), (10, .int .i64)] [(0, .row 77)]
def LP_Q_NearPairs_L3 (g : C_Q_NearPairs) (n : Nat) : LPT A := fun ps => match ps with | [.d (.sl 120 p1), .d (.sl 120 p2), .d (.int .i64 p3), .d (.int .i64 p4), .d (.sl 77 p5)] => fun K => Q_NearPairs_L3 g n p1 p2 p3 p4 p5 (fun z0 => K (.exit 0) (mkSt 45 6 [(3, .own 77 0)] [(0, some (.row 77 z0))])) | _ => fun _ => none
noncomputable def code_39 : Code := (Tryz.f39.body).getD .skip
noncomputable def E_Q_NearPairs (g : C_Q_NearPairs) : Env A := mkE [(93, SS_Q_near g.Q_near)] [(5, [1]), (7, [3]), (40, [4]), (41, [5])] [(6, ⟨[0, 3, 5, 8, 9, 10, 18, 19, 20], [(3, 77, 2)], [1], []⟩), (3, ⟨[0, 3, 8, 9, 10], [(3, 77, 0)], [], []⟩)] [(6, ⟨[0, 3, 8, 9, 10], [], [2], []⟩), (3, ⟨[3], [], [0], []⟩)] [(6, pieceOf sh_Q_NearPairs_L6 (LP_Q_NearPairs_L6 g g.N)), (3, pieceOf sh_Q_NearPairs_L3 (LP_Q_NearPairs_L3 g g.N))] [] [] [] [] []
theorem ct_Q_NearPairs [Fuel] : NatTab (E_Q_NearPairs I_Q_NearPairs).C := ct_of (P := Tryz.prog) (T := T) (.cons ok_Q_near .nil) (by kernel_rfl)
noncomputable def cb_Q_NearPairs_L6 : Code := sub [1, 1, 0, 1, 0, 0, 1, 1, 0, 0, 1, 1, 0, 0] code_39
theorem s_Q_NearPairs_L6 (g : C_Q_NearPairs) (n : Nat) : StepOk (E_Q_NearPairs g) g.N cb_Q_NearPairs_L6 sh_Q_NearPairs_L6 (LP_Q_NearPairs_L6 g) n := by intro ps; unfold LP_Q_NearPairs_L6; split; exact .inr fun R K => (by kernel_rfl); exact .inl fun R K => rfl
theorem lf_Q_NearPairs_L6 [Fuel] : LoopFine (E_Q_NearPairs I_Q_NearPairs) NN cb_Q_NearPairs_L6 := fine_loop sh_Q_NearPairs_L6 (LP_Q_NearPairs_L6 I_Q_NearPairs) (by kernel_rfl) ct_Q_NearPairs (cuts0 (fun _ => rfl) (by kernel_rfl)) (fun ps R K => by unfold LP_Q_NearPairs_L6; split <;> (try unfold Q_NearPairs_L6) <;> rfl) (s_Q_NearPairs_L6 I_Q_NearPairs)
noncomputable def cb_Q_NearPairs_L3 : Code := sub [1, 1, 0, 1, 0, 0] code_39
theorem s_Q_NearPairs_L3 (g : C_Q_NearPairs) (n : Nat) : StepOk (E_Q_NearPairs g) g.N cb_Q_NearPairs_L3 sh_Q_NearPairs_L3 (LP_Q_NearPairs_L3 g) n := by intro ps; unfold LP_Q_NearPairs_L3; split; exact .inr fun R K => (by kernel_rfl); exact .inl fun R K => rfl
theorem lf_Q_NearPairs_L3 [Fuel] : LoopFine (E_Q_NearPairs I_Q_NearPairs) NN cb_Q_NearPairs_L3 := fine_loop sh_Q_NearPairs_L3 (LP_Q_NearPairs_L3 I_Q_NearPairs) (by kernel_rfl) ct_Q_NearPairs (cutsL (fun _ => rfl) (.cons lf_Q_NearPairs_L6 .nil) (by kernel_rfl)) (fun ps R K => by unfold LP_Q_NearPairs_L3; split <;> (try unfold Q_NearPairs_L3) <;> rfl) (s_Q_NearPairs_L3 I_Q_NearPairs)
theorem sm_Q_NearPairs (g : C_Q_NearPairs) : Same (SS_Q_NearPairs (@Q_NearPairs_ g)) (abody (E_Q_NearPairs g) Tryz.f39 code_39 6 [] [.arr 77] g.N) := by intro args; unfold SS_Q_NearPairs; split; exact .inr fun R k => (by kernel_rfl); exact .inl fun R k => rfl
theorem ok_Q_NearPairs [Fuel] : Ok 39 (SS_Q_NearPairs (@Q_NearPairs _)) := okF_of std (.cons ok_Q_near .nil) ⟨rfl, rfl, by kernel_rfl, rfl, rfl, rfl⟩ (sm_Q_NearPairs I_Q_NearPairs) (cutsL (fun _ => rfl) (.cons lf_Q_NearPairs_L6 (.cons lf_Q_NearPairs_L3 .nil)) (by kernel_rfl)) Tryz.func39 (by kernel_rfl) (by kernel_rfl)
abbrev T_Q_FewestOf : Type 1 := List G_Busy → {R : Type} → (Int → Option R) → Option R
def Q_FewestOf_L7 (g : Nat) : Nat → List G_Busy → Int → Int → List G_Busy → Int → Int → List G_Busy → Int → Int → G_Busy → {R : Type} → (List G_Busy → Int → Int → List G_Busy → Int → Int → Option R) → Option R
  | 0, _, _, _, _, _, _, _, _, _, _, _, _ => none
  | n + 1, v27, v28, v29, v30, v31, v32, v33, v34, v35, v36, _, e0 => (bif (decide (v35 < v34)) then (get_ v33 v35 fun x38 => (bif (decide (x38.f_Time.f_From ≤ v36.f_Time.f_From)) then (bif (decide (v36.f_Time.f_From < x38.f_Time.f_To)) then Q_FewestOf_L7 g n v27 v28 (w64 (v29 + 1)) v30 v31 v32 v33 v34 (w64 (v35 + 1)) v36 e0 else Q_FewestOf_L7 g n v27 v28 v29 v30 v31 v32 v33 v34 (w64 (v35 + 1)) v36 e0) else Q_FewestOf_L7 g n v27 v28 v29 v30 v31 v32 v33 v34 (w64 (v35 + 1)) v36 e0)) else e0 v27 v28 v29 v30 v31 v32)
def Q_FewestOf_L3 (g : Nat) : Nat → List G_Busy → Int → List G_Busy → Int → Int → {R : Type} → (Int → Option R) → Option R
  | 0, _, _, _, _, _, _, _ => none
  | n + 1, v2, v3, v4, v5, v6, _, e0 => (bif (decide (v6 < v5)) then (get_ v4 v6 fun x26 => (Q_FewestOf_L7 g g v2 v3 0 v4 v5 v6 v2 (v2.length : Int) 0 x26 (fun e39 e40 e41 e42 e43 e44 => Q_FewestOf_L3 g n e39 (if e41 > e40 then e41 else e40) e42 e43 (w64 (e44 + 1)) e0))) else e0 v3)
def Q_FewestOf_ (g : Nat) (a1 : List G_Busy) {R : Type} (k0 : Int → Option R) : Option R :=
  (Q_FewestOf_L3 g g a1 0 a1 (a1.length : Int) 0 (fun e45 => k0 e45))
noncomputable def Q_FewestOf [Fuel] : T_Q_FewestOf := @Q_FewestOf_ NN
def SS_Q_FewestOf (g : T_Q_FewestOf) : Spec A := fun args => match args with | [.d (.sl 120 a1)] => fun k => g a1 (fun z0 => k (.d (.int .i64 z0)) [.undef]) | _ => fun _ => none
def sh_Q_FewestOf_L7 : SSt := mkSh 45 2 [(0, .sl 120), (3, .int .i64), (5, .ptr 0 0), (6, .int .i64), (9, .sl 120), (10, .int .i64), (11, .int .i64), (15, .sl 120), (16, .int .i64), (17, .int .i64)] [(0, .box [.str, .int .i64, .int .i64, .int .i64, .int .i64])]
def LP_Q_FewestOf_L7 (g : Nat) (n : Nat) : LPT A := fun ps => match ps with | [.d (.sl 120 p1), .d (.int .i64 p2), .d (.int .i64 p3), .d (.sl 120 p4), .d (.int .i64 p5), .d (.int .i64 p6), .d (.sl 120 p7), .d (.int .i64 p8), .d (.int .i64 p9), .d (.str p10), .d (.int .i64 p11), .d (.int .i64 p12), .d (.int .i64 p13), .d (.int .i64 p14)] => fun K => Q_FewestOf_L7 g n p1 p2 p3 p4 p5 p6 p7 p8 p9 ⟨p10, p11, p12, ⟨p13, p14⟩⟩ (fun z0 z1 z2 z3 z4 z5 => K (.exit 2) (mkSt 45 2 [(0, .d (.sl 120 z0)), (3, .d (.int .i64 z1)), (6, .d (.int .i64 z2)), (9, .d (.sl 120 z3)), (10, .d (.int .i64 z4)), (11, .d (.int .i64 z5))] [])) | _ => fun _ => none
def sh_Q_FewestOf_L3 : SSt := mkSh 45 2 [(0, .sl 120), (3, .int .i64), (9, .sl 120), (10, .int .i64), (11, .int .i64)] []
def LP_Q_FewestOf_L3 (g : Nat) (n : Nat) : LPT A := fun ps => match ps with | [.d (.sl 120 p1), .d (.int .i64 p2), .d (.sl 120 p3), .d (.int .i64 p4), .d (.int .i64 p5)] => fun K => Q_FewestOf_L3 g n p1 p2 p3 p4 p5 (fun z0 => K (.exit 0) (mkSt 45 2 [(3, .d (.int .i64 z0))] [])) | _ => fun _ => none
noncomputable def code_40 : Code := (Tryz.f40.body).getD .skip
noncomputable def E_Q_FewestOf (g : Nat) : Env A := mkE [] [(5, [0]), (8, [1])] [(7, ⟨[0, 3, 5, 6, 9, 10, 11, 15, 16, 17], [], [0], []⟩), (3, ⟨[0, 3, 9, 10, 11], [], [], []⟩)] [(7, ⟨[0, 3, 6, 9, 10, 11], [], [], []⟩), (3, ⟨[3], [], [], []⟩)] [(7, pieceOf sh_Q_FewestOf_L7 (LP_Q_FewestOf_L7 g g)), (3, pieceOf sh_Q_FewestOf_L3 (LP_Q_FewestOf_L3 g g))] [] [] [] [] []
theorem ct_Q_FewestOf [Fuel] : NatTab (E_Q_FewestOf NN).C := ct_of (P := Tryz.prog) (T := T) .nil (by kernel_rfl)
noncomputable def cb_Q_FewestOf_L7 : Code := sub [1, 1, 0, 1, 0, 0, 1, 1, 0, 0, 1, 1, 0, 1, 0, 0] code_40
theorem s_Q_FewestOf_L7 (g : Nat) (n : Nat) : StepOk (E_Q_FewestOf g) g cb_Q_FewestOf_L7 sh_Q_FewestOf_L7 (LP_Q_FewestOf_L7 g) n := by intro ps; unfold LP_Q_FewestOf_L7; split; exact .inr fun R K => (by kernel_rfl); exact .inl fun R K => rfl
theorem lf_Q_FewestOf_L7 [Fuel] : LoopFine (E_Q_FewestOf NN) NN cb_Q_FewestOf_L7 := fine_loop sh_Q_FewestOf_L7 (LP_Q_FewestOf_L7 NN) (by kernel_rfl) ct_Q_FewestOf (cuts0 (fun _ => rfl) (by kernel_rfl)) (fun ps R K => by unfold LP_Q_FewestOf_L7; split <;> (try unfold Q_FewestOf_L7) <;> rfl) (s_Q_FewestOf_L7 NN)
noncomputable def cb_Q_FewestOf_L3 : Code := sub [1, 1, 0, 1, 0, 0] code_40
theorem s_Q_FewestOf_L3 (g : Nat) (n : Nat) : StepOk (E_Q_FewestOf g) g cb_Q_FewestOf_L3 sh_Q_FewestOf_L3 (LP_Q_FewestOf_L3 g) n := by intro ps; unfold LP_Q_FewestOf_L3; split; exact .inr fun R K => (by kernel_rfl); exact .inl fun R K => rfl
theorem lf_Q_FewestOf_L3 [Fuel] : LoopFine (E_Q_FewestOf NN) NN cb_Q_FewestOf_L3 := fine_loop sh_Q_FewestOf_L3 (LP_Q_FewestOf_L3 NN) (by kernel_rfl) ct_Q_FewestOf (cutsL (fun _ => rfl) (.cons lf_Q_FewestOf_L7 .nil) (by kernel_rfl)) (fun ps R K => by unfold LP_Q_FewestOf_L3; split <;> (try unfold Q_FewestOf_L3) <;> rfl) (s_Q_FewestOf_L3 NN)
theorem sm_Q_FewestOf (g : Nat) : Same (SS_Q_FewestOf (@Q_FewestOf_ g)) (abody (E_Q_FewestOf g) Tryz.f40 code_40 2 [] [.asis] g) := by intro args; unfold SS_Q_FewestOf; split; exact .inr fun R k => (by kernel_rfl); exact .inl fun R k => rfl
theorem ok_Q_FewestOf [Fuel] : Ok 40 (SS_Q_FewestOf (@Q_FewestOf _)) := okF_of std .nil ⟨rfl, rfl, by kernel_rfl, rfl, rfl, rfl⟩ (sm_Q_FewestOf NN) (cutsL (fun _ => rfl) (.cons lf_Q_FewestOf_L7 (.cons lf_Q_FewestOf_L3 .nil)) (by kernel_rfl)) Tryz.func40 (by kernel_rfl) (by kernel_rfl)
abbrev T_Q_permitted : Type 1 := List G_Segment → List UInt8 → Int → Int → {R : Type} → (List G_Row → Option R) → Option R
structure C_Q_permitted where
  N : Nat
  slices_Contains__int : T_slices_Contains__int
def Q_permitted_L3 (g : C_Q_permitted) : Nat → List UInt8 → Int → Int → List G_Segment → Int → Int → List G_Row → {R : Type} → (List G_Row → Option R) → Option R
  | 0, _, _, _, _, _, _, _, _, _ => none
  | n + 1, v5, v6, v7, v8, v9, v10, v11, _, e0 => (bif (decide (v10 < v9)) then (get_ v8 v10 fun x14 => (bif (x14.f_Class == v5) then (bif (decide (x14.f_Time.f_From ≤ v7)) then (bif (decide (v7 < x14.f_Time.f_To)) then (bif (v6 == 0) then (bif (decide ((v11.length + [(⟨x14.f_Low, x14.f_High⟩ : G_Row)].length) * 16 ≤ roomBytes')) then Q_permitted_L3 g n v5 v6 v7 v8 v9 (w64 (v10 + 1)) (v11 ++ [(⟨x14.f_Low, x14.f_High⟩ : G_Row)]) e0 else none) else (g.slices_Contains__int x14.f_Modes v6 (fun r15 => (bif r15 then (bif (decide ((v11.length + [(⟨x14.f_Low, x14.f_High⟩ : G_Row)].length) * 16 ≤ roomBytes')) then Q_permitted_L3 g n v5 v6 v7 v8 v9 (w64 (v10 + 1)) (v11 ++ [(⟨x14.f_Low, x14.f_High⟩ : G_Row)]) e0 else none) else Q_permitted_L3 g n v5 v6 v7 v8 v9 (w64 (v10 + 1)) v11 e0)))) else Q_permitted_L3 g n v5 v6 v7 v8 v9 (w64 (v10 + 1)) v11 e0) else Q_permitted_L3 g n v5 v6 v7 v8 v9 (w64 (v10 + 1)) v11 e0) else Q_permitted_L3 g n v5 v6 v7 v8 v9 (w64 (v10 + 1)) v11 e0)) else e0 v11)
def Q_permitted_ (g : C_Q_permitted) (a1 : List G_Segment) (a2 : List UInt8) (a3 a4 : Int) {R : Type} (k0 : List G_Row → Option R) : Option R :=
  (Q_permitted_L3 g g.N a2 a3 a4 a1 (a1.length : Int) 0 [] (fun e16 => k0 e16))
noncomputable def I_Q_permitted [Fuel] : C_Q_permitted := ⟨NN, @slices_Contains__int _⟩
noncomputable def Q_permitted [Fuel] : T_Q_permitted := @Q_permitted_ I_Q_permitted
def SS_Q_permitted (g : T_Q_permitted) : Spec A := fun args => match args with | [.d (.sl 115 a1), .d (.str a2), .d (.int .i64 a3), .d (.int .i64 a4)] => fun k => g a1 a2 a3 a4 (fun z0 => k (.arr 80 z0) [.undef, .undef, .undef, .undef]) | _ => fun _ => none
def sh_Q_permitted_L3 : SSt := mkSh 56 4 [(1, .str), (2, .int .i64), (3, .int .i64), (9, .own 80 0), (12, .sl 115), (13, .int .i64), (14, .int .i64)] [(0, .row 80)]
def LP_Q_permitted_L3 (g : C_Q_permitted) (n : Nat) : LPT A := fun ps => match ps with | [.d (.str p1), .d (.int .i64 p2), .d (.int .i64 p3), .d (.sl 115 p4), .d (.int .i64 p5), .d (.int .i64 p6), .d (.sl 80 p7)] => fun K => Q_permitted_L3 g n p1 p2 p3 p4 p5 p6 p7 (fun z0 => K (.exit 0) (mkSt 56 4 [(9, .own 80 0)] [(0, some (.row 80 z0))])) | _ => fun _ => none
noncomputable def code_96 : Code := (Tryz.f96.body).getD .skip
noncomputable def E_Q_permitted (g : C_Q_permitted) : Env A := mkE [(137, SS_slices_Contains__int g.slices_Contains__int)] [(11, [1]), (52, [2]), (53, [3])] [(3, ⟨[1, 2, 3, 9, 12, 13, 14], [(9, 80, 0)], [], []⟩)] [(3, ⟨[9], [], [0], []⟩)] [(3, pieceOf sh_Q_permitted_L3 (LP_Q_permitted_L3 g g.N))] [] [] [] [] []
theorem ct_Q_permitted [Fuel] : NatTab (E_Q_permitted I_Q_permitted).C := ct_of (P := Tryz.prog) (T := T) (.cons ok_slices_Contains__int .nil) (by kernel_rfl)
noncomputable def cb_Q_permitted_L3 : Code := sub [1, 1, 0, 1, 0, 0] code_96
theorem s_Q_permitted_L3 (g : C_Q_permitted) (n : Nat) : StepOk (E_Q_permitted g) g.N cb_Q_permitted_L3 sh_Q_permitted_L3 (LP_Q_permitted_L3 g) n := by intro ps; unfold LP_Q_permitted_L3; split; exact .inr fun R K => (by kernel_rfl); exact .inl fun R K => rfl
theorem lf_Q_permitted_L3 [Fuel] : LoopFine (E_Q_permitted I_Q_permitted) NN cb_Q_permitted_L3 := fine_loop sh_Q_permitted_L3 (LP_Q_permitted_L3 I_Q_permitted) (by kernel_rfl) ct_Q_permitted (cuts0 (fun _ => rfl) (by kernel_rfl)) (fun ps R K => by unfold LP_Q_permitted_L3; split <;> (try unfold Q_permitted_L3) <;> rfl) (s_Q_permitted_L3 I_Q_permitted)
theorem sm_Q_permitted (g : C_Q_permitted) : Same (SS_Q_permitted (@Q_permitted_ g)) (abody (E_Q_permitted g) Tryz.f96 code_96 4 [] [.arr 80] g.N) := by intro args; unfold SS_Q_permitted; split; exact .inr fun R k => (by kernel_rfl); exact .inl fun R k => rfl
theorem ok_Q_permitted [Fuel] : Ok 96 (SS_Q_permitted (@Q_permitted _)) := okF_of std (.cons ok_slices_Contains__int .nil) ⟨rfl, rfl, by kernel_rfl, rfl, rfl, rfl⟩ (sm_Q_permitted I_Q_permitted) (cutsL (fun _ => rfl) (.cons lf_Q_permitted_L3 .nil) (by kernel_rfl)) Tryz.func96 (by kernel_rfl) (by kernel_rfl)
abbrev T_slices_Grow__Row_n0 : Type 1 := Int → {R : Type} → (List G_Row → Option R) → Option R
def slices_Grow__Row_n0 [Fuel] : T_slices_Grow__Row_n0 := @X_grow G_Row 16
def SS_slices_Grow__Row_n0 (g : T_slices_Grow__Row_n0) : Spec A := fun args => match args with | [.d .nsl, .d (.int .i64 x1)] => fun k => g x1 (fun z => k (.arr 80 z) [.undef, .undef]) | _ => fun _ => none
theorem h1_slices_Grow__Row_n0 [Fuel] (xs : Int) (R : Type) (k : IV A → List (IV A) → Option R) : SS_slices_Grow__Row_n0 (@slices_Grow__Row_n0 _) [.d .nsl, .d (.int .i64 xs)] k = X_grow (α := A 80) 16 xs (fun z => k (.arr 80 z) [.undef, .undef]) := by kernel_rfl
theorem h2_slices_Grow__Row_n0 [Fuel] (args : List (IV A)) (R : Type) (k : IV A → List (IV A) → Option R) (h : ∀ xs : Int, args ≠ [.d .nsl, .d (.int .i64 xs)]) : SS_slices_Grow__Row_n0 (@slices_Grow__Row_n0 _) args k = none := by unfold SS_slices_Grow__Row_n0; split; exact absurd rfl (h _); rfl
theorem ok_slices_Grow__Row_n0 [Fuel] : Ok 184 (SS_slices_Grow__Row_n0 (@slices_Grow__Row_n0 _)) := ⟨grow_fs (grow_sound rfl (tyOk Tryz.prog) (e := 80) (size := 2) (bytes := 16) (ty := 80) (by kernel_rfl) (fun w => grow_0 Tryz.grow184 w) (fun n w hn hb hm => grow_h Tryz.grow184 Tryz.ti80 Tryz.zv80 (by kernel_rfl) (by kernel_rfl) 2 16 (by kernel_rfl) (by kernel_rfl) (by decide) (by kernel_rfl) n w hn hb hm)) h1_slices_Grow__Row_n0 h2_slices_Grow__Row_n0, grow_na h1_slices_Grow__Row_n0 h2_slices_Grow__Row_n0, enters_of (fn := Tryz.f184) Tryz.func184 (by kernel_rfl) (by kernel_rfl)⟩
end Go.Am
