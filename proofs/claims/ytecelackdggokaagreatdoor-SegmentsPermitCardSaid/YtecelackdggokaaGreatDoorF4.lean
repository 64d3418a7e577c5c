/- The functions of the program as Lean functions, each shown to be what the code computes, part 4. No condition: lemmas for the claim. -/
import Derived.Test.YtecelackdggokaaGreatDoorF0
import Derived.Test.YtecelackdggokaaGreatDoorFSh
import Derived.Test.YtecelackdggokaaGreatDoorF1
import Derived.Test.YtecelackdggokaaGreatDoorF2
import Derived.Test.YtecelackdggokaaGreatDoorF3
set_option linter.unusedVariables false
set_option maxRecDepth 100000
namespace Go.Am
open Go Go.Proofs
abbrev T_Q_Key : Type 1 := List UInt8 → {R : Type} → (Bool → Option R) → Option R
structure C_Q_Key where
  N : Nat
  Q_in : T_Q_in
  Q_only : T_Q_only
def Q_Key_ (g : C_Q_Key) (a1 : List UInt8) {R : Type} (k0 : Bool → Option R) : Option R :=
  (g.Q_in (a1.length : Int) 1 40 (fun r2 => (bif r2 then (bif (decide (0 ≤ 1) && decide (1 ≤ (a1.length : Int))) then (g.Q_only (a1.take (1 : Int).toNat) [97, 98, 99, 100, 101, 102, 103, 104, 105, 106, 107, 108, 109, 110, 111, 112, 113, 114, 115, 116, 117, 118, 119, 120, 121, 122] (fun r3 => (bif r3 then (g.Q_only a1 [97, 98, 99, 100, 101, 102, 103, 104, 105, 106, 107, 108, 109, 110, 111, 112, 113, 114, 115, 116, 117, 118, 119, 120, 121, 122, 48, 49, 50, 51, 52, 53, 54, 55, 56, 57, 45, 95] (fun r4 => k0 r4)) else k0 false))) else none) else k0 false)))
noncomputable def I_Q_Key [Fuel] : C_Q_Key := ⟨NN, @Q_in _, @Q_only _⟩
noncomputable def Q_Key [Fuel] : T_Q_Key := @Q_Key_ I_Q_Key
def SS_Q_Key (g : T_Q_Key) : Spec A := fun args => match args with | [.d (.str a1)] => fun k => g a1 (fun z0 => k (.d (.bool z0)) [.undef]) | _ => fun _ => none
noncomputable def code_117 : Code := (Tryz.f117.body).getD .skip
noncomputable def E_Q_Key (g : C_Q_Key) : Env A := mkE [(86, SS_Q_in g.Q_in), (181, SS_Q_only g.Q_only)] [] [] [] [] [] [] [] [] []
theorem sm_Q_Key (g : C_Q_Key) : Same (SS_Q_Key (@Q_Key_ g)) (abody (E_Q_Key g) Tryz.f117 code_117 0 [] [.asis] g.N) := by intro args; unfold SS_Q_Key; split; exact .inr fun R k => (by kernel_rfl); exact .inl fun R k => rfl
theorem ok_Q_Key [Fuel] : Ok 117 (SS_Q_Key (@Q_Key _)) := okF_of std (.cons ok_Q_in (.cons ok_Q_only .nil)) ⟨rfl, rfl, by kernel_rfl, rfl, rfl⟩ (sm_Q_Key I_Q_Key) (cuts0 (fun _ => rfl) (by kernel_rfl)) Tryz.func117 (by kernel_rfl) (by kernel_rfl)
abbrev T_Q_timeFault : Type 1 := G_Window → {R : Type} → (Int → Option R) → Option R
def Q_timeFault_ (g : Nat) (a1 : G_Window) {R : Type} (k0 : Int → Option R) : Option R :=
  (bif (decide (a1.f_From < 0)) then k0 1 else (bif (decide (a1.f_From ≥ a1.f_To)) then k0 1 else (bif (decide (a1.f_To > 345686400000)) then k0 1 else k0 0)))
noncomputable def Q_timeFault [Fuel] : T_Q_timeFault := @Q_timeFault_ NN
def SS_Q_timeFault (g : T_Q_timeFault) : Spec A := fun args => match args with | [.agg [.d (.int .i64 a1), .d (.int .i64 a2)]] => fun k => g ⟨a1, a2⟩ (fun z0 => k (.d (.int .i64 z0)) [.undef]) | _ => fun _ => none
noncomputable def code_156 : Code := (Tryz.f156.body).getD .skip
noncomputable def E_Q_timeFault (g : Nat) : Env A := mkE [] [(1, [0])] [] [] [] [] [] [] [] []
theorem sm_Q_timeFault (g : Nat) : Same (SS_Q_timeFault (@Q_timeFault_ g)) (abody (E_Q_timeFault g) Tryz.f156 code_156 1 [] [.asis] g) := by intro args; unfold SS_Q_timeFault; split; exact .inr fun R k => (by kernel_rfl); exact .inl fun R k => rfl
theorem ok_Q_timeFault [Fuel] : Ok 156 (SS_Q_timeFault (@Q_timeFault _)) := okF_of std .nil ⟨rfl, rfl, by kernel_rfl, rfl, rfl⟩ (sm_Q_timeFault NN) (cuts0 (fun _ => rfl) (by kernel_rfl)) Tryz.func156 (by kernel_rfl) (by kernel_rfl)
abbrev T_Q_SegmentsFault : Type 1 := List G_Segment → {R : Type} → (Int → Option R) → Option R
structure C_Q_SegmentsFault where
  N : Nat
  Q_in : T_Q_in
  strings_Compare : T_strings_Compare
  Q_Key : T_Q_Key
  slices_Compare__int : T_slices_Compare__int
  Q_timeFault : T_Q_timeFault
def Q_SegmentsFault_L13 (g : C_Q_SegmentsFault) : Nat → List G_Segment → Int → List G_Segment → Int → Int → List Int → Int → Int → G_Segment → {R : Type} → (List G_Segment → Int → Int → List G_Segment → Int → Int → G_Segment → Option R) → (List G_Segment → Int → List G_Segment → Int → Int → G_Segment → Option R) → Option R
  | 0, _, _, _, _, _, _, _, _, _, _, _, _ => none
  | n + 1, v42, v43, v44, v45, v46, v47, v48, v49, v50, _, e0, e1 => (bif (decide (v49 < v48)) then (get_ v47 v49 fun x54 => (g.Q_in x54 1 3 (fun r55 => (bif (!r55) then e0 v42 4 v43 v44 v45 v46 v50 else (bif (decide (v49 > 0)) then (get_ v50.f_Modes (w64 (v49 - 1)) fun x56 => (bif (decide (x54 ≤ x56)) then e0 v42 7 v43 v44 v45 v46 v50 else Q_SegmentsFault_L13 g n v42 v43 v44 v45 v46 v47 v48 (w64 (v49 + 1)) v50 e0 e1)) else Q_SegmentsFault_L13 g n v42 v43 v44 v45 v46 v47 v48 (w64 (v49 + 1)) v50 e0 e1))))) else e1 v42 v43 v44 v45 v46 v50)
def Q_SegmentsFault_L4 (g : C_Q_SegmentsFault) : Nat → List G_Segment → List G_Segment → Int → Int → {R : Type} → (Int → Option R) → Option R → Option R
  | 0, _, _, _, _, _, _, _ => none
  | n + 1, v2, v3, v4, v5, _, e0, e1 => (bif (decide (v5 < v4)) then (get_ v3 v5 fun x40 => (g.Q_Key x40.f_Class (fun r41 => (bif (!r41) then e0 5 else (bif (decide (x40.f_Low < 0)) then e0 1 else (bif (decide (x40.f_Low ≥ x40.f_High)) then e0 1 else (bif (decide (x40.f_High > 30000000000)) then e0 1 else (bif ((x40.f_Modes.length : Int) == 0) then e0 8 else (Q_SegmentsFault_L13 g g.N v2 v5 v3 v4 v5 x40.f_Modes (x40.f_Modes.length : Int) 0 x40 (fun e57 e58 e59 e60 e61 e62 e63 => e0 e58) (fun e64 e65 e66 e67 e68 e69 => (g.Q_timeFault e69.f_Time (fun r70 => (bif (r70 != 0) then e0 r70 else (bif (decide (e65 > 0)) then (get_ e64 (w64 (e65 - 1)) fun x71 => (g.strings_Compare x71.f_Class e69.f_Class (fun r72 => (bif (r72 == 0) then (g.slices_Compare__int [x71.f_Low, x71.f_High, x71.f_Time.f_From] [e69.f_Low, e69.f_High, e69.f_Time.f_From] (fun r73 => (bif (decide (r73 ≥ 0)) then e0 7 else Q_SegmentsFault_L4 g n e64 e66 e67 (w64 (e68 + 1)) e0 e1))) else (bif (decide (r72 ≥ 0)) then e0 7 else Q_SegmentsFault_L4 g n e64 e66 e67 (w64 (e68 + 1)) e0 e1))))) else Q_SegmentsFault_L4 g n e64 e66 e67 (w64 (e68 + 1)) e0 e1)))))))))))))) else e1)
def Q_SegmentsFault_ (g : C_Q_SegmentsFault) (a1 : List G_Segment) {R : Type} (k0 : Int → Option R) : Option R :=
  (bif (decide ((a1.length : Int) > 500)) then k0 2 else (Q_SegmentsFault_L4 g g.N a1 a1 (a1.length : Int) 0 (fun e74 => k0 e74) (k0 0)))
noncomputable def I_Q_SegmentsFault [Fuel] : C_Q_SegmentsFault := ⟨NN, @Q_in _, @strings_Compare _, @Q_Key _, @slices_Compare__int _, @Q_timeFault _⟩
noncomputable def Q_SegmentsFault [Fuel] : T_Q_SegmentsFault := @Q_SegmentsFault_ I_Q_SegmentsFault
def SS_Q_SegmentsFault (g : T_Q_SegmentsFault) : Spec A := fun args => match args with | [.d (.sl 172 a1)] => fun k => g a1 (fun z0 => k (.d (.int .i64 z0)) [.undef]) | _ => fun _ => none
def sh_Q_SegmentsFault_L13 : SSt := mkSh 110 4 [(0, .sl 172), (3, .int .i64), (4, .ptr 0 0), (13, .sl 172), (14, .int .i64), (15, .int .i64), (47, .sl 3), (48, .int .i64), (49, .int .i64)] [(0, .box [.str, .int .i64, .int .i64, .sl 3, .int .i64, .int .i64])]
def LP_Q_SegmentsFault_L13 (g : C_Q_SegmentsFault) (n : Nat) : LPT A := fun ps => match ps with | [.d (.sl 172 p1), .d (.int .i64 p2), .d (.sl 172 p3), .d (.int .i64 p4), .d (.int .i64 p5), .d (.sl 3 p6), .d (.int .i64 p7), .d (.int .i64 p8), .d (.str p9), .d (.int .i64 p10), .d (.int .i64 p11), .d (.sl 3 p12), .d (.int .i64 p13), .d (.int .i64 p14)] => fun K => Q_SegmentsFault_L13 g n p1 p2 p3 p4 p5 p6 p7 p8 ⟨p9, p10, p11, p12, ⟨p13, p14⟩⟩ (fun z0 z1 z2 z3 z4 z5 z6 => K .ret (mkSt 110 4 [(0, .d (.sl 172 z0)), (2, .d (.int .i64 z1)), (3, .d (.int .i64 z2)), (4, .ptr 0 0), (13, .d (.sl 172 z3)), (14, .d (.int .i64 z4)), (15, .d (.int .i64 z5))] [(0, some (.box [.d (.str z6.f_Class), .d (.int .i64 z6.f_Low), .d (.int .i64 z6.f_High), .d (.sl 3 z6.f_Modes), .d (.int .i64 z6.f_Time.f_From), .d (.int .i64 z6.f_Time.f_To)]))])) (fun z0 z1 z2 z3 z4 z5 => K (.exit 3) (mkSt 110 4 [(0, .d (.sl 172 z0)), (3, .d (.int .i64 z1)), (4, .ptr 0 0), (13, .d (.sl 172 z2)), (14, .d (.int .i64 z3)), (15, .d (.int .i64 z4))] [(0, some (.box [.d (.str z5.f_Class), .d (.int .i64 z5.f_Low), .d (.int .i64 z5.f_High), .d (.sl 3 z5.f_Modes), .d (.int .i64 z5.f_Time.f_From), .d (.int .i64 z5.f_Time.f_To)]))])) | _ => fun _ => none
def sh_Q_SegmentsFault_L4 : SSt := mkSh 110 4 [(0, .sl 172), (13, .sl 172), (14, .int .i64), (15, .int .i64)] []
def LP_Q_SegmentsFault_L4 (g : C_Q_SegmentsFault) (n : Nat) : LPT A := fun ps => match ps with | [.d (.sl 172 p1), .d (.sl 172 p2), .d (.int .i64 p3), .d (.int .i64 p4)] => fun K => Q_SegmentsFault_L4 g n p1 p2 p3 p4 (fun z0 => K .ret (mkSt 110 4 [(2, .d (.int .i64 z0))] [])) (K (.exit 0) (mkSt 110 4 [] [])) | _ => fun _ => none
noncomputable def code_59 : Code := (Tryz.f59.body).getD .skip
noncomputable def E_Q_SegmentsFault (g : C_Q_SegmentsFault) : Env A := mkE [(86, SS_Q_in g.Q_in), (114, SS_strings_Compare g.strings_Compare), (117, SS_Q_Key g.Q_Key), (150, SS_slices_Compare__int g.slices_Compare__int), (156, SS_Q_timeFault g.Q_timeFault)] [(4, [0]), (8, [1]), (97, [2]), (105, [3])] [(13, ⟨[0, 3, 4, 13, 14, 15, 47, 48, 49], [], [0], []⟩), (4, ⟨[0, 13, 14, 15], [], [], []⟩)] [(13, ⟨[0, 2, 3, 4, 13, 14, 15], [], [0], []⟩), (4, ⟨[2], [], [], []⟩)] [(13, pieceOf sh_Q_SegmentsFault_L13 (LP_Q_SegmentsFault_L13 g g.N)), (4, pieceOf sh_Q_SegmentsFault_L4 (LP_Q_SegmentsFault_L4 g g.N))] [] [] [] [] []
theorem ct_Q_SegmentsFault [Fuel] : NatTab (E_Q_SegmentsFault I_Q_SegmentsFault).C := ct_of (P := Tryz.prog) (T := T) (.cons ok_Q_in (.cons ok_strings_Compare (.cons ok_Q_Key (.cons ok_slices_Compare__int (.cons ok_Q_timeFault .nil))))) (by kernel_rfl)
noncomputable def cb_Q_SegmentsFault_L13 : Code := sub [1, 1, 0, 1, 0, 0, 1, 1, 0, 0, 1, 1, 0, 1, 0, 0] code_59
theorem s_Q_SegmentsFault_L13 (g : C_Q_SegmentsFault) (n : Nat) : StepOk (E_Q_SegmentsFault g) g.N cb_Q_SegmentsFault_L13 sh_Q_SegmentsFault_L13 (LP_Q_SegmentsFault_L13 g) n := by intro ps; unfold LP_Q_SegmentsFault_L13; split; exact .inr fun R K => (by kernel_rfl); exact .inl fun R K => rfl
theorem lf_Q_SegmentsFault_L13 [Fuel] : LoopFine (E_Q_SegmentsFault I_Q_SegmentsFault) NN cb_Q_SegmentsFault_L13 := fine_loop sh_Q_SegmentsFault_L13 (LP_Q_SegmentsFault_L13 I_Q_SegmentsFault) (by kernel_rfl) ct_Q_SegmentsFault (cuts0 (fun _ => rfl) (by kernel_rfl)) (fun ps R K => by unfold LP_Q_SegmentsFault_L13; split <;> (try unfold Q_SegmentsFault_L13) <;> rfl) (s_Q_SegmentsFault_L13 I_Q_SegmentsFault)
noncomputable def cb_Q_SegmentsFault_L4 : Code := sub [1, 1, 0, 1, 0, 0] code_59
theorem s_Q_SegmentsFault_L4 (g : C_Q_SegmentsFault) (n : Nat) : StepOk (E_Q_SegmentsFault g) g.N cb_Q_SegmentsFault_L4 sh_Q_SegmentsFault_L4 (LP_Q_SegmentsFault_L4 g) n := by intro ps; unfold LP_Q_SegmentsFault_L4; split; exact .inr fun R K => (by kernel_rfl); exact .inl fun R K => rfl
theorem lf_Q_SegmentsFault_L4 [Fuel] : LoopFine (E_Q_SegmentsFault I_Q_SegmentsFault) NN cb_Q_SegmentsFault_L4 := fine_loop sh_Q_SegmentsFault_L4 (LP_Q_SegmentsFault_L4 I_Q_SegmentsFault) (by kernel_rfl) ct_Q_SegmentsFault (cutsL (fun _ => rfl) (.cons lf_Q_SegmentsFault_L13 .nil) (by kernel_rfl)) (fun ps R K => by unfold LP_Q_SegmentsFault_L4; split <;> (try unfold Q_SegmentsFault_L4) <;> rfl) (s_Q_SegmentsFault_L4 I_Q_SegmentsFault)
theorem sm_Q_SegmentsFault (g : C_Q_SegmentsFault) : Same (SS_Q_SegmentsFault (@Q_SegmentsFault_ g)) (abody (E_Q_SegmentsFault g) Tryz.f59 code_59 4 [] [.asis] g.N) := by intro args; unfold SS_Q_SegmentsFault; split; exact .inr fun R k => (by kernel_rfl); exact .inl fun R k => rfl
theorem ok_Q_SegmentsFault [Fuel] : Ok 59 (SS_Q_SegmentsFault (@Q_SegmentsFault _)) := okF_of std (.cons ok_Q_in (.cons ok_strings_Compare (.cons ok_Q_Key (.cons ok_slices_Compare__int (.cons ok_Q_timeFault .nil))))) ⟨rfl, rfl, by kernel_rfl, rfl, rfl⟩ (sm_Q_SegmentsFault I_Q_SegmentsFault) (cutsL (fun _ => rfl) (.cons lf_Q_SegmentsFault_L13 (.cons lf_Q_SegmentsFault_L4 .nil)) (by kernel_rfl)) Tryz.func59 (by kernel_rfl) (by kernel_rfl)
abbrev T_law_when : Type 1 := Bool → Int → {R : Type} → (Int → Option R) → Option R
def law_when_ (g : Nat) (a1 : Bool) (a2 : Int) {R : Type} (k0 : Int → Option R) : Option R :=
  (bif a1 then k0 a2 else k0 0)
noncomputable def law_when [Fuel] : T_law_when := @law_when_ NN
def SS_law_when (g : T_law_when) : Spec A := fun args => match args with | [.d (.bool a1), .d (.int .i64 a2)] => fun k => g a1 a2 (fun z0 => k (.d (.int .i64 z0)) [.undef, .undef]) | _ => fun _ => none
noncomputable def code_157 : Code := (Tryz.f157.body).getD .skip
noncomputable def E_law_when (g : Nat) : Env A := mkE [] [] [] [] [] [] [] [] [] []
theorem sm_law_when (g : Nat) : Same (SS_law_when (@law_when_ g)) (abody (E_law_when g) Tryz.f157 code_157 0 [] [.asis] g) := by intro args; unfold SS_law_when; split; exact .inr fun R k => (by kernel_rfl); exact .inl fun R k => rfl
theorem ok_law_when [Fuel] : Ok 157 (SS_law_when (@law_when _)) := okF_of std .nil ⟨rfl, rfl, by kernel_rfl, rfl, rfl⟩ (sm_law_when NN) (cuts0 (fun _ => rfl) (by kernel_rfl)) Tryz.func157 (by kernel_rfl) (by kernel_rfl)
abbrev T_law_nameFault : Type 1 := List UInt8 → {R : Type} → (Int → Option R) → Option R
structure C_law_nameFault where
  N : Nat
  Q_Key : T_Q_Key
  law_when : T_law_when
def law_nameFault_ (g : C_law_nameFault) (a1 : List UInt8) {R : Type} (k0 : Int → Option R) : Option R :=
  (g.Q_Key a1 (fun r2 => (g.law_when (!r2) 5 (fun r3 => k0 r3))))
noncomputable def I_law_nameFault [Fuel] : C_law_nameFault := ⟨NN, @Q_Key _, @law_when _⟩
noncomputable def law_nameFault [Fuel] : T_law_nameFault := @law_nameFault_ I_law_nameFault
def SS_law_nameFault (g : T_law_nameFault) : Spec A := fun args => match args with | [.d (.str a1)] => fun k => g a1 (fun z0 => k (.d (.int .i64 z0)) [.undef]) | _ => fun _ => none
noncomputable def code_60 : Code := (Tryz.f60.body).getD .skip
noncomputable def E_law_nameFault (g : C_law_nameFault) : Env A := mkE [(117, SS_Q_Key g.Q_Key), (157, SS_law_when g.law_when)] [] [] [] [] [] [] [] [] []
theorem sm_law_nameFault (g : C_law_nameFault) : Same (SS_law_nameFault (@law_nameFault_ g)) (abody (E_law_nameFault g) Tryz.f60 code_60 0 [] [.asis] g.N) := by intro args; unfold SS_law_nameFault; split; exact .inr fun R k => (by kernel_rfl); exact .inl fun R k => rfl
theorem ok_law_nameFault [Fuel] : Ok 60 (SS_law_nameFault (@law_nameFault _)) := okF_of std (.cons ok_Q_Key (.cons ok_law_when .nil)) ⟨rfl, rfl, by kernel_rfl, rfl, rfl⟩ (sm_law_nameFault I_law_nameFault) (cuts0 (fun _ => rfl) (by kernel_rfl)) Tryz.func60 (by kernel_rfl) (by kernel_rfl)
abbrev T_law_errs : Type 1 := List Int → {R : Type} → (Int → Option R) → Option R
def law_errs_L2 (g : Nat) : Nat → List Int → Int → Int → {R : Type} → (Int → Option R) → Option R → Option R
  | 0, _, _, _, _, _, _ => none
  | n + 1, v2, v3, v4, _, e0, e1 => (bif (decide (v4 < v3)) then (get_ v2 v4 fun x6 => (bif (x6 != 0) then e0 x6 else law_errs_L2 g n v2 v3 (w64 (v4 + 1)) e0 e1)) else e1)
def law_errs_ (g : Nat) (a1 : List Int) {R : Type} (k0 : Int → Option R) : Option R :=
  (law_errs_L2 g g a1 (a1.length : Int) 0 (fun e7 => k0 e7) (k0 0))
noncomputable def law_errs [Fuel] : T_law_errs := @law_errs_ NN
def SS_law_errs (g : T_law_errs) : Spec A := fun args => match args with | [.d (.sl 38 a1)] => fun k => g a1 (fun z0 => k (.d (.int .i64 z0)) [.undef]) | _ => fun _ => none
def sh_law_errs_L2 : SSt := mkSh 15 0 [(5, .sl 38), (6, .int .i64), (7, .int .i64)] []
def LP_law_errs_L2 (g : Nat) (n : Nat) : LPT A := fun ps => match ps with | [.d (.sl 38 p1), .d (.int .i64 p2), .d (.int .i64 p3)] => fun K => law_errs_L2 g n p1 p2 p3 (fun z0 => K .ret (mkSt 15 0 [(2, .d (.int .i64 z0))] [])) (K (.exit 0) (mkSt 15 0 [] [])) | _ => fun _ => none
noncomputable def code_15 : Code := (Tryz.f15.body).getD .skip
noncomputable def E_law_errs (g : Nat) : Env A := mkE [] [] [(2, ⟨[5, 6, 7], [], [], []⟩)] [(2, ⟨[2], [], [], []⟩)] [(2, pieceOf sh_law_errs_L2 (LP_law_errs_L2 g g))] [] [] [] [] []
theorem ct_law_errs [Fuel] : NatTab (E_law_errs NN).C := ct_of (P := Tryz.prog) (T := T) .nil (by kernel_rfl)
noncomputable def cb_law_errs_L2 : Code := sub [1, 0, 1, 0, 0] code_15
theorem s_law_errs_L2 (g : Nat) (n : Nat) : StepOk (E_law_errs g) g cb_law_errs_L2 sh_law_errs_L2 (LP_law_errs_L2 g) n := by intro ps; unfold LP_law_errs_L2; split; exact .inr fun R K => (by kernel_rfl); exact .inl fun R K => rfl
theorem lf_law_errs_L2 [Fuel] : LoopFine (E_law_errs NN) NN cb_law_errs_L2 := fine_loop sh_law_errs_L2 (LP_law_errs_L2 NN) (by kernel_rfl) ct_law_errs (cuts0 (fun _ => rfl) (by kernel_rfl)) (fun ps R K => by unfold LP_law_errs_L2; split <;> (try unfold law_errs_L2) <;> rfl) (s_law_errs_L2 NN)
theorem sm_law_errs (g : Nat) : Same (SS_law_errs (@law_errs_ g)) (abody (E_law_errs g) Tryz.f15 code_15 0 [] [.asis] g) := by intro args; unfold SS_law_errs; split; exact .inr fun R k => (by kernel_rfl); exact .inl fun R k => rfl
theorem ok_law_errs [Fuel] : Ok 15 (SS_law_errs (@law_errs _)) := okF_of std .nil ⟨rfl, rfl, by kernel_rfl, rfl, rfl⟩ (sm_law_errs NN) (cutsL (fun _ => rfl) (.cons lf_law_errs_L2 .nil) (by kernel_rfl)) Tryz.func15 (by kernel_rfl) (by kernel_rfl)
abbrev T_law_hertzFault : Type 1 := Int → {R : Type} → (Int → Option R) → Option R
structure C_law_hertzFault where
  N : Nat
  law_when : T_law_when
def law_hertzFault_ (g : C_law_hertzFault) (a1 : Int) {R : Type} (k0 : Int → Option R) : Option R :=
  (bif (decide (a1 < 0)) then (g.law_when true 1 (fun r2 => k0 r2)) else (g.law_when (decide (a1 > 30000000000)) 1 (fun r3 => k0 r3)))
noncomputable def I_law_hertzFault [Fuel] : C_law_hertzFault := ⟨NN, @law_when _⟩
noncomputable def law_hertzFault [Fuel] : T_law_hertzFault := @law_hertzFault_ I_law_hertzFault
def SS_law_hertzFault (g : T_law_hertzFault) : Spec A := fun args => match args with | [.d (.int .i64 a1)] => fun k => g a1 (fun z0 => k (.d (.int .i64 z0)) [.undef]) | _ => fun _ => none
noncomputable def code_61 : Code := (Tryz.f61.body).getD .skip
noncomputable def E_law_hertzFault (g : C_law_hertzFault) : Env A := mkE [(157, SS_law_when g.law_when)] [] [] [] [] [] [] [] [] []
theorem sm_law_hertzFault (g : C_law_hertzFault) : Same (SS_law_hertzFault (@law_hertzFault_ g)) (abody (E_law_hertzFault g) Tryz.f61 code_61 0 [] [.asis] g.N) := by intro args; unfold SS_law_hertzFault; split; exact .inr fun R k => (by kernel_rfl); exact .inl fun R k => rfl
theorem ok_law_hertzFault [Fuel] : Ok 61 (SS_law_hertzFault (@law_hertzFault _)) := okF_of std (.cons ok_law_when .nil) ⟨rfl, rfl, by kernel_rfl, rfl, rfl⟩ (sm_law_hertzFault I_law_hertzFault) (cuts0 (fun _ => rfl) (by kernel_rfl)) Tryz.func61 (by kernel_rfl) (by kernel_rfl)
abbrev T_law_widthFault : Type 1 := Int → {R : Type} → (Int → Option R) → Option R
structure C_law_widthFault where
  N : Nat
  law_when : T_law_when
def law_widthFault_ (g : C_law_widthFault) (a1 : Int) {R : Type} (k0 : Int → Option R) : Option R :=
  (bif (decide (a1 < 1)) then (g.law_when true 1 (fun r2 => k0 r2)) else (g.law_when (decide (a1 > 100000)) 1 (fun r3 => k0 r3)))
noncomputable def I_law_widthFault [Fuel] : C_law_widthFault := ⟨NN, @law_when _⟩
noncomputable def law_widthFault [Fuel] : T_law_widthFault := @law_widthFault_ I_law_widthFault
def SS_law_widthFault (g : T_law_widthFault) : Spec A := fun args => match args with | [.d (.int .i64 a1)] => fun k => g a1 (fun z0 => k (.d (.int .i64 z0)) [.undef]) | _ => fun _ => none
noncomputable def code_62 : Code := (Tryz.f62.body).getD .skip
noncomputable def E_law_widthFault (g : C_law_widthFault) : Env A := mkE [(157, SS_law_when g.law_when)] [] [] [] [] [] [] [] [] []
theorem sm_law_widthFault (g : C_law_widthFault) : Same (SS_law_widthFault (@law_widthFault_ g)) (abody (E_law_widthFault g) Tryz.f62 code_62 0 [] [.asis] g.N) := by intro args; unfold SS_law_widthFault; split; exact .inr fun R k => (by kernel_rfl); exact .inl fun R k => rfl
theorem ok_law_widthFault [Fuel] : Ok 62 (SS_law_widthFault (@law_widthFault _)) := okF_of std (.cons ok_law_when .nil) ⟨rfl, rfl, by kernel_rfl, rfl, rfl⟩ (sm_law_widthFault I_law_widthFault) (cuts0 (fun _ => rfl) (by kernel_rfl)) Tryz.func62 (by kernel_rfl) (by kernel_rfl)
abbrev T_law_modeFault : Type 1 := Int → {R : Type} → (Int → Option R) → Option R
structure C_law_modeFault where
  N : Nat
  law_when : T_law_when
def law_modeFault_ (g : C_law_modeFault) (a1 : Int) {R : Type} (k0 : Int → Option R) : Option R :=
  (bif (decide (a1 < 1)) then (g.law_when true 4 (fun r2 => k0 r2)) else (g.law_when (decide (a1 > 3)) 4 (fun r3 => k0 r3)))
noncomputable def I_law_modeFault [Fuel] : C_law_modeFault := ⟨NN, @law_when _⟩
noncomputable def law_modeFault [Fuel] : T_law_modeFault := @law_modeFault_ I_law_modeFault
def SS_law_modeFault (g : T_law_modeFault) : Spec A := fun args => match args with | [.d (.int .i64 a1)] => fun k => g a1 (fun z0 => k (.d (.int .i64 z0)) [.undef]) | _ => fun _ => none
noncomputable def code_63 : Code := (Tryz.f63.body).getD .skip
noncomputable def E_law_modeFault (g : C_law_modeFault) : Env A := mkE [(157, SS_law_when g.law_when)] [] [] [] [] [] [] [] [] []
theorem sm_law_modeFault (g : C_law_modeFault) : Same (SS_law_modeFault (@law_modeFault_ g)) (abody (E_law_modeFault g) Tryz.f63 code_63 0 [] [.asis] g.N) := by intro args; unfold SS_law_modeFault; split; exact .inr fun R k => (by kernel_rfl); exact .inl fun R k => rfl
theorem ok_law_modeFault [Fuel] : Ok 63 (SS_law_modeFault (@law_modeFault _)) := okF_of std (.cons ok_law_when .nil) ⟨rfl, rfl, by kernel_rfl, rfl, rfl⟩ (sm_law_modeFault I_law_modeFault) (cuts0 (fun _ => rfl) (by kernel_rfl)) Tryz.func63 (by kernel_rfl) (by kernel_rfl)
abbrev T_Q_Moment : Type 1 := Int → {R : Type} → (Bool → Option R) → Option R
structure C_Q_Moment where
  N : Nat
  Q_in : T_Q_in
def Q_Moment_ (g : C_Q_Moment) (a1 : Int) {R : Type} (k0 : Bool → Option R) : Option R :=
  (g.Q_in a1 0 345686399999 (fun r2 => k0 r2))
noncomputable def I_Q_Moment [Fuel] : C_Q_Moment := ⟨NN, @Q_in _⟩
noncomputable def Q_Moment [Fuel] : T_Q_Moment := @Q_Moment_ I_Q_Moment
def SS_Q_Moment (g : T_Q_Moment) : Spec A := fun args => match args with | [.d (.int .i64 a1)] => fun k => g a1 (fun z0 => k (.d (.bool z0)) [.undef]) | _ => fun _ => none
noncomputable def code_115 : Code := (Tryz.f115.body).getD .skip
noncomputable def E_Q_Moment (g : C_Q_Moment) : Env A := mkE [(86, SS_Q_in g.Q_in)] [] [] [] [] [] [] [] [] []
theorem sm_Q_Moment (g : C_Q_Moment) : Same (SS_Q_Moment (@Q_Moment_ g)) (abody (E_Q_Moment g) Tryz.f115 code_115 0 [] [.asis] g.N) := by intro args; unfold SS_Q_Moment; split; exact .inr fun R k => (by kernel_rfl); exact .inl fun R k => rfl
theorem ok_Q_Moment [Fuel] : Ok 115 (SS_Q_Moment (@Q_Moment _)) := okF_of std (.cons ok_Q_in .nil) ⟨rfl, rfl, by kernel_rfl, rfl, rfl⟩ (sm_Q_Moment I_Q_Moment) (cuts0 (fun _ => rfl) (by kernel_rfl)) Tryz.func115 (by kernel_rfl) (by kernel_rfl)
abbrev T_Q_MomentFault : Type 1 := Int → {R : Type} → (Int → Option R) → Option R
structure C_Q_MomentFault where
  N : Nat
  Q_Moment : T_Q_Moment
def Q_MomentFault_ (g : C_Q_MomentFault) (a1 : Int) {R : Type} (k0 : Int → Option R) : Option R :=
  (g.Q_Moment a1 (fun r2 => (bif (!r2) then k0 1 else k0 0)))
noncomputable def I_Q_MomentFault [Fuel] : C_Q_MomentFault := ⟨NN, @Q_Moment _⟩
noncomputable def Q_MomentFault [Fuel] : T_Q_MomentFault := @Q_MomentFault_ I_Q_MomentFault
def SS_Q_MomentFault (g : T_Q_MomentFault) : Spec A := fun args => match args with | [.d (.int .i64 a1)] => fun k => g a1 (fun z0 => k (.d (.int .i64 z0)) [.undef]) | _ => fun _ => none
noncomputable def code_31 : Code := (Tryz.f31.body).getD .skip
noncomputable def E_Q_MomentFault (g : C_Q_MomentFault) : Env A := mkE [(115, SS_Q_Moment g.Q_Moment)] [] [] [] [] [] [] [] [] []
theorem sm_Q_MomentFault (g : C_Q_MomentFault) : Same (SS_Q_MomentFault (@Q_MomentFault_ g)) (abody (E_Q_MomentFault g) Tryz.f31 code_31 0 [] [.asis] g.N) := by intro args; unfold SS_Q_MomentFault; split; exact .inr fun R k => (by kernel_rfl); exact .inl fun R k => rfl
theorem ok_Q_MomentFault [Fuel] : Ok 31 (SS_Q_MomentFault (@Q_MomentFault _)) := okF_of std (.cons ok_Q_Moment .nil) ⟨rfl, rfl, by kernel_rfl, rfl, rfl⟩ (sm_Q_MomentFault I_Q_MomentFault) (cuts0 (fun _ => rfl) (by kernel_rfl)) Tryz.func31 (by kernel_rfl) (by kernel_rfl)
abbrev T_Q_permitted : Type 1 := List G_Segment → List UInt8 → Int → Int → {R : Type} → (List G_Row → Option R) → Option R
structure C_Q_permitted where
  N : Nat
  slices_Contains__int : T_slices_Contains__int
def Q_permitted_L3 (g : C_Q_permitted) : Nat → List UInt8 → Int → Int → List G_Segment → Int → Int → List G_Row → {R : Type} → (List G_Row → Option R) → Option R
  | 0, _, _, _, _, _, _, _, _, _ => none
  | n + 1, v5, v6, v7, v8, v9, v10, v11, _, e0 => (bif (decide (v10 < v9)) then (get_ v8 v10 fun x14 => (bif (x14.f_Class == v5) then (bif (decide (x14.f_Time.f_From ≤ v7)) then (bif (decide (v7 < x14.f_Time.f_To)) then (bif (v6 == 0) then (bif (decide ((v11.length + [(⟨x14.f_Low, x14.f_High⟩ : G_Row)].length) * 16 ≤ roomBytes')) then Q_permitted_L3 g n v5 v6 v7 v8 v9 (w64 (v10 + 1)) (v11 ++ [(⟨x14.f_Low, x14.f_High⟩ : G_Row)]) e0 else none) else (g.slices_Contains__int x14.f_Modes v6 (fun r15 => (bif r15 then (bif (decide ((v11.length + [(⟨x14.f_Low, x14.f_High⟩ : G_Row)].length) * 16 ≤ roomBytes')) then Q_permitted_L3 g n v5 v6 v7 v8 v9 (w64 (v10 + 1)) (v11 ++ [(⟨x14.f_Low, x14.f_High⟩ : G_Row)]) e0 else none) else Q_permitted_L3 g n v5 v6 v7 v8 v9 (w64 (v10 + 1)) v11 e0)))) else Q_permitted_L3 g n v5 v6 v7 v8 v9 (w64 (v10 + 1)) v11 e0) else Q_permitted_L3 g n v5 v6 v7 v8 v9 (w64 (v10 + 1)) v11 e0) else Q_permitted_L3 g n v5 v6 v7 v8 v9 (w64 (v10 + 1)) v11 e0)) else e0 v11)
def Q_permitted_ (g : C_Q_permitted) (a1 : List G_Segment) (a2 : List UInt8) (a3 a4 : Int) {R : Type} (k0 : List G_Row → Option R) : Option R :=
  (Q_permitted_L3 g g.N a2 a3 a4 a1 (a1.length : Int) 0 [] (fun e16 => k0 e16))
noncomputable def I_Q_permitted [Fuel] : C_Q_permitted := ⟨NN, @slices_Contains__int _⟩
noncomputable def Q_permitted [Fuel] : T_Q_permitted := @Q_permitted_ I_Q_permitted
def SS_Q_permitted (g : T_Q_permitted) : Spec A := fun args => match args with | [.d (.sl 172 a1), .d (.str a2), .d (.int .i64 a3), .d (.int .i64 a4)] => fun k => g a1 a2 a3 a4 (fun z0 => k (.arr 98 z0) [.undef, .undef, .undef, .undef]) | _ => fun _ => none
def sh_Q_permitted_L3 : SSt := mkSh 56 4 [(1, .str), (2, .int .i64), (3, .int .i64), (9, .own 98 0), (12, .sl 172), (13, .int .i64), (14, .int .i64)] [(0, .row 98)]
def LP_Q_permitted_L3 (g : C_Q_permitted) (n : Nat) : LPT A := fun ps => match ps with | [.d (.str p1), .d (.int .i64 p2), .d (.int .i64 p3), .d (.sl 172 p4), .d (.int .i64 p5), .d (.int .i64 p6), .d (.sl 98 p7)] => fun K => Q_permitted_L3 g n p1 p2 p3 p4 p5 p6 p7 (fun z0 => K (.exit 0) (mkSt 56 4 [(9, .own 98 0)] [(0, some (.row 98 z0))])) | _ => fun _ => none
noncomputable def code_159 : Code := (Tryz.f159.body).getD .skip
noncomputable def E_Q_permitted (g : C_Q_permitted) : Env A := mkE [(200, SS_slices_Contains__int g.slices_Contains__int)] [(11, [1]), (52, [2]), (53, [3])] [(3, ⟨[1, 2, 3, 9, 12, 13, 14], [(9, 98, 0)], [], []⟩)] [(3, ⟨[9], [], [0], []⟩)] [(3, pieceOf sh_Q_permitted_L3 (LP_Q_permitted_L3 g g.N))] [] [] [] [] []
theorem ct_Q_permitted [Fuel] : NatTab (E_Q_permitted I_Q_permitted).C := ct_of (P := Tryz.prog) (T := T) (.cons ok_slices_Contains__int .nil) (by kernel_rfl)
noncomputable def cb_Q_permitted_L3 : Code := sub [1, 1, 0, 1, 0, 0] code_159
theorem s_Q_permitted_L3 (g : C_Q_permitted) (n : Nat) : StepOk (E_Q_permitted g) g.N cb_Q_permitted_L3 sh_Q_permitted_L3 (LP_Q_permitted_L3 g) n := by intro ps; unfold LP_Q_permitted_L3; split; exact .inr fun R K => (by kernel_rfl); exact .inl fun R K => rfl
theorem lf_Q_permitted_L3 [Fuel] : LoopFine (E_Q_permitted I_Q_permitted) NN cb_Q_permitted_L3 := fine_loop sh_Q_permitted_L3 (LP_Q_permitted_L3 I_Q_permitted) (by kernel_rfl) ct_Q_permitted (cuts0 (fun _ => rfl) (by kernel_rfl)) (fun ps R K => by unfold LP_Q_permitted_L3; split <;> (try unfold Q_permitted_L3) <;> rfl) (s_Q_permitted_L3 I_Q_permitted)
theorem sm_Q_permitted (g : C_Q_permitted) : Same (SS_Q_permitted (@Q_permitted_ g)) (abody (E_Q_permitted g) Tryz.f159 code_159 4 [] [.arr 98] g.N) := by intro args; unfold SS_Q_permitted; split; exact .inr fun R k => (by kernel_rfl); exact .inl fun R k => rfl
theorem ok_Q_permitted [Fuel] : Ok 159 (SS_Q_permitted (@Q_permitted _)) := okF_of std (.cons ok_slices_Contains__int .nil) ⟨rfl, rfl, by kernel_rfl, rfl, rfl⟩ (sm_Q_permitted I_Q_permitted) (cutsL (fun _ => rfl) (.cons lf_Q_permitted_L3 .nil) (by kernel_rfl)) Tryz.func159 (by kernel_rfl) (by kernel_rfl)
abbrev T_slices_Grow__Row_n0 : Type 1 := Int → {R : Type} → (List G_Row → Option R) → Option R
def slices_Grow__Row_n0 [Fuel] : T_slices_Grow__Row_n0 := @X_grow G_Row 16
def SS_slices_Grow__Row_n0 (g : T_slices_Grow__Row_n0) : Spec A := fun args => match args with | [.d .nsl, .d (.int .i64 x1)] => fun k => g x1 (fun z => k (.arr 98 z) [.undef, .undef]) | _ => fun _ => none
theorem h1_slices_Grow__Row_n0 [Fuel] (xs : Int) (R : Type) (k : IV A → List (IV A) → Option R) : SS_slices_Grow__Row_n0 (@slices_Grow__Row_n0 _) [.d .nsl, .d (.int .i64 xs)] k = X_grow (α := A 98) 16 xs (fun z => k (.arr 98 z) [.undef, .undef]) := by kernel_rfl
theorem h2_slices_Grow__Row_n0 [Fuel] (args : List (IV A)) (R : Type) (k : IV A → List (IV A) → Option R) (h : ∀ xs : Int, args ≠ [.d .nsl, .d (.int .i64 xs)]) : SS_slices_Grow__Row_n0 (@slices_Grow__Row_n0 _) args k = none := by unfold SS_slices_Grow__Row_n0; split; exact absurd rfl (h _); rfl
theorem ok_slices_Grow__Row_n0 [Fuel] : Ok 287 (SS_slices_Grow__Row_n0 (@slices_Grow__Row_n0 _)) := ⟨grow_fs (grow_sound rfl (tyOk Tryz.prog) (e := 98) (size := 2) (bytes := 16) (ty := 98) (by kernel_rfl) (fun w => grow_0 Tryz.grow287 w) (fun n w hn hb hm => grow_h Tryz.grow287 Tryz.ti98 Tryz.zv98 (by kernel_rfl) (by kernel_rfl) 2 16 (by kernel_rfl) (by kernel_rfl) (by decide) (by kernel_rfl) n w hn hb hm)) h1_slices_Grow__Row_n0 h2_slices_Grow__Row_n0, grow_na h1_slices_Grow__Row_n0 h2_slices_Grow__Row_n0, enters_of (fn := Tryz.f287) Tryz.func287 (by kernel_rfl) (by kernel_rfl)⟩
abbrev T_slices_Concat__Row : Type 1 := List (List G_Row) → {R : Type} → (List G_Row → Option R) → Option R
structure C_slices_Concat__Row where
  N : Nat
  slices_Grow__Row_n0 : T_slices_Grow__Row_n0
def slices_Concat__Row_L3 (g : C_slices_Concat__Row) : Nat → List (List G_Row) → Int → List (List G_Row) → Int → Int → {R : Type} → (List (List G_Row) → Int → Option R) → Option R
  | 0, _, _, _, _, _, _, _ => none
  | n + 1, v2, v3, v4, v5, v6, _, e0 => (bif (decide (v6 < v5)) then (get_ v4 v6 fun x8 => (bif (decide ((w64 (v3 + (x8.length : Int))) < 0)) then none else slices_Concat__Row_L3 g n v2 (w64 (v3 + (x8.length : Int))) v4 v5 (w64 (v6 + 1)) e0)) else e0 v2 v3)
def slices_Concat__Row_L11 (g : C_slices_Concat__Row) : Nat → List (List G_Row) → Int → Int → List G_Row → {R : Type} → (List G_Row → Option R) → Option R
  | 0, _, _, _, _, _, _ => none
  | n + 1, v12, v13, v14, v15, _, e0 => (bif (decide (v14 < v13)) then (get_ v12 v14 fun x17 => (bif (decide ((v15.length + x17.length) * 16 ≤ roomBytes')) then slices_Concat__Row_L11 g n v12 v13 (w64 (v14 + 1)) (v15 ++ x17) e0 else none)) else e0 v15)
def slices_Concat__Row_ (g : C_slices_Concat__Row) (a1 : List (List G_Row)) {R : Type} (k0 : List G_Row → Option R) : Option R :=
  (slices_Concat__Row_L3 g g.N a1 0 a1 (a1.length : Int) 0 (fun e9 e10 => (g.slices_Grow__Row_n0 e10 (fun r11 => (slices_Concat__Row_L11 g g.N e9 (e9.length : Int) 0 r11 (fun e18 => k0 e18))))))
noncomputable def I_slices_Concat__Row [Fuel] : C_slices_Concat__Row := ⟨NN, @slices_Grow__Row_n0 _⟩
noncomputable def slices_Concat__Row [Fuel] : T_slices_Concat__Row := @slices_Concat__Row_ I_slices_Concat__Row
def SS_slices_Concat__Row (g : T_slices_Concat__Row) : Spec A := fun args => match args with | [.d (.sl 89 a1)] => fun k => g a1 (fun z0 => k (.arr 98 z0) [.undef]) | _ => fun _ => none
def sh_slices_Concat__Row_L3 : SSt := mkSh 36 3 [(0, .sl 89), (3, .int .i64), (9, .sl 89), (10, .int .i64), (11, .int .i64)] []
def LP_slices_Concat__Row_L3 (g : C_slices_Concat__Row) (n : Nat) : LPT A := fun ps => match ps with | [.d (.sl 89 p1), .d (.int .i64 p2), .d (.sl 89 p3), .d (.int .i64 p4), .d (.int .i64 p5)] => fun K => slices_Concat__Row_L3 g n p1 p2 p3 p4 p5 (fun z0 z1 => K (.exit 0) (mkSt 36 3 [(0, .d (.sl 89 z0)), (3, .d (.int .i64 z1))] [])) | _ => fun _ => none
def sh_slices_Concat__Row_L11 : SSt := mkSh 36 3 [(6, .own 98 1), (25, .sl 89), (26, .int .i64), (27, .int .i64)] [(1, .row 98)]
def LP_slices_Concat__Row_L11 (g : C_slices_Concat__Row) (n : Nat) : LPT A := fun ps => match ps with | [.d (.sl 89 p1), .d (.int .i64 p2), .d (.int .i64 p3), .d (.sl 98 p4)] => fun K => slices_Concat__Row_L11 g n p1 p2 p3 p4 (fun z0 => K (.exit 2) (mkSt 36 3 [(6, .own 98 1)] [(1, some (.row 98 z0))])) | _ => fun _ => none
noncomputable def code_203 : Code := (Tryz.f203.body).getD .skip
noncomputable def E_slices_Concat__Row (g : C_slices_Concat__Row) : Env A := mkE [(287, SS_slices_Grow__Row_n0 g.slices_Grow__Row_n0)] [(24, [0]), (33, [2])] [(3, ⟨[0, 3, 9, 10, 11], [], [], []⟩), (11, ⟨[6, 25, 26, 27], [(6, 98, 1)], [], []⟩)] [(3, ⟨[0, 3], [], [], []⟩), (11, ⟨[6], [], [1], []⟩)] [(3, pieceOf sh_slices_Concat__Row_L3 (LP_slices_Concat__Row_L3 g g.N)), (11, pieceOf sh_slices_Concat__Row_L11 (LP_slices_Concat__Row_L11 g g.N))] [] [] [] [(287, 0)] []
theorem ct_slices_Concat__Row [Fuel] : NatTab (E_slices_Concat__Row I_slices_Concat__Row).C := ct_of (P := Tryz.prog) (T := T) (.cons ok_slices_Grow__Row_n0 .nil) (by kernel_rfl)
noncomputable def cb_slices_Concat__Row_L3 : Code := sub [1, 1, 0, 1, 0, 0] code_203
theorem s_slices_Concat__Row_L3 (g : C_slices_Concat__Row) (n : Nat) : StepOk (E_slices_Concat__Row g) g.N cb_slices_Concat__Row_L3 sh_slices_Concat__Row_L3 (LP_slices_Concat__Row_L3 g) n := by intro ps; unfold LP_slices_Concat__Row_L3; split; exact .inr fun R K => (by kernel_rfl); exact .inl fun R K => rfl
theorem lf_slices_Concat__Row_L3 [Fuel] : LoopFine (E_slices_Concat__Row I_slices_Concat__Row) NN cb_slices_Concat__Row_L3 := fine_loop sh_slices_Concat__Row_L3 (LP_slices_Concat__Row_L3 I_slices_Concat__Row) (by kernel_rfl) ct_slices_Concat__Row (cuts0 (fun _ => rfl) (by kernel_rfl)) (fun ps R K => by unfold LP_slices_Concat__Row_L3; split <;> (try unfold slices_Concat__Row_L3) <;> rfl) (s_slices_Concat__Row_L3 I_slices_Concat__Row)
noncomputable def cb_slices_Concat__Row_L11 : Code := sub [1, 1, 1, 1, 0, 1, 0, 0] code_203
theorem s_slices_Concat__Row_L11 (g : C_slices_Concat__Row) (n : Nat) : StepOk (E_slices_Concat__Row g) g.N cb_slices_Concat__Row_L11 sh_slices_Concat__Row_L11 (LP_slices_Concat__Row_L11 g) n := by intro ps; unfold LP_slices_Concat__Row_L11; split; exact .inr fun R K => (by kernel_rfl); exact .inl fun R K => rfl
theorem lf_slices_Concat__Row_L11 [Fuel] : LoopFine (E_slices_Concat__Row I_slices_Concat__Row) NN cb_slices_Concat__Row_L11 := fine_loop sh_slices_Concat__Row_L11 (LP_slices_Concat__Row_L11 I_slices_Concat__Row) (by kernel_rfl) ct_slices_Concat__Row (cuts0 (fun _ => rfl) (by kernel_rfl)) (fun ps R K => by unfold LP_slices_Concat__Row_L11; split <;> (try unfold slices_Concat__Row_L11) <;> rfl) (s_slices_Concat__Row_L11 I_slices_Concat__Row)
theorem sm_slices_Concat__Row (g : C_slices_Concat__Row) : Same (SS_slices_Concat__Row (@slices_Concat__Row_ g)) (abody (E_slices_Concat__Row g) Tryz.f203 code_203 3 [] [.arr 98] g.N) := by intro args; unfold SS_slices_Concat__Row; split; exact .inr fun R k => (by kernel_rfl); exact .inl fun R k => rfl
theorem ok_slices_Concat__Row [Fuel] : Ok 203 (SS_slices_Concat__Row (@slices_Concat__Row _)) := okF_of std (.cons ok_slices_Grow__Row_n0 .nil) ⟨rfl, rfl, by kernel_rfl, rfl, rfl⟩ (sm_slices_Concat__Row I_slices_Concat__Row) (cutsL (fun _ => rfl) (.cons lf_slices_Concat__Row_L3 (.cons lf_slices_Concat__Row_L11 .nil)) (by kernel_rfl)) Tryz.func203 (by kernel_rfl) (by kernel_rfl)
abbrev T_slices_Sort__int : Type 1 := List Int → {R : Type} → (List Int → Option R) → Option R
def slices_Sort__int [Fuel] : T_slices_Sort__int := @X_sorto Int srtI
def SS_slices_Sort__int (g : T_slices_Sort__int) : Spec A := fun args => match args with | [.arr 3 a1] => fun k => g a1 (fun z => k (.tup []) [.arr 3 z]) | _ => fun _ => none
theorem h1_slices_Sort__int [Fuel] (xs : List (A 3)) (R : Type) (k : IV A → List (IV A) → Option R) : SS_slices_Sort__int (@slices_Sort__int _) [.arr 3 xs] k = X_sorto (α := A 3) srtI xs (fun z => k (.tup []) [.arr 3 z]) := by kernel_rfl
theorem h2_slices_Sort__int [Fuel] (args : List (IV A)) (R : Type) (k : IV A → List (IV A) → Option R) (h : ∀ xs : List (A 3), args ≠ [.arr 3 xs]) : SS_slices_Sort__int (@slices_Sort__int _) args k = none := by unfold SS_slices_Sort__int; split; exact absurd rfl (h _); rfl
theorem hv_slices_Sort__int (x : Int) : ∃ d, T.enc 3 x = [d] ∧ scal d = true ∧ (Value.int .i64) x = valD d := ⟨.int .i64 x, rfl, rfl, rfl⟩
theorem ok_slices_Sort__int [Fuel] : Ok 204 (SS_slices_Sort__int (@slices_Sort__int _)) := ⟨sorto_sound (tyOk Tryz.prog) (e := 3) (inferInstanceAs (Inhabited Int)) (Value.int .i64) srtI (fun xs => List.length_mergeSort xs) hv_slices_Sort__int rfl (fun b c xs w h1 h2 h3 => Go.Proofs.Any.slices_Sort_int Tryz.lays189 b 0 c xs w h1 h2 h3) (fun p c w => Go.Proofs.Any.slices_Sort_int_none Tryz.lays189 p c w) h1_slices_Sort__int h2_slices_Sort__int, sorto_na (e := 3) h1_slices_Sort__int h2_slices_Sort__int, enters_of (fn := Tryz.f204) Tryz.func204 (by kernel_rfl) (by kernel_rfl)⟩
abbrev T_slices_Compact__int : Type 1 := List Int → {R : Type} → (List Int → Option R) → Option R
def slices_Compact__int_L9 (g : Nat) : Nat → Int → Int → Int → Int → List Int → {R : Type} → (Int → List Int → Option R) → Option R
  | 0, _, _, _, _, _, _, _ => none
  | n + 1, v23, v24, v25, v26, v27, _, e0 => (bif (decide (v26 < ((v25 - v24).toNat : Int))) then (bif (decide (0 ≤ v26) && (decide (v26 < v25 - v24) && decide (v24 + v26 < (v27.length : Int)))) then (at_ v27 (v24 + v26) fun x32 => (bif (decide (0 ≤ (w64 (v26 - 1))) && (decide ((w64 (v26 - 1)) < v25 - v24) && decide (v24 + (w64 (v26 - 1)) < (v27.length : Int)))) then (at_ v27 (v24 + (w64 (v26 - 1))) fun x33 => (bif (x32 != x33) then (bif (decide (0 ≤ v26) && (decide (v26 < v25 - v24) && decide (v24 + v26 < (v27.length : Int)))) then (at_ v27 (v24 + v26) fun x34 => (inr v27 v23 (at_ v27 v23 fun x35 => slices_Compact__int_L9 g n (w64 (v23 + 1)) v24 v25 (w64 (v26 + 1)) (set_ v27 v23 x34) e0))) else none) else slices_Compact__int_L9 g n v23 v24 v25 (w64 (v26 + 1)) v27 e0)) else none)) else none) else e0 v23 v27)
def slices_Compact__int_L4 (g : Nat) : Nat → Int → List Int → {R : Type} → (List Int → Option R) → (List Int → Option R) → Option R
  | 0, _, _, _, _, _ => none
  | n + 1, v2, v3, _, e0, e1 => (bif (decide (v2 < (v3.length : Int))) then (inr v3 v2 (at_ v3 v2 fun x21 => (inr v3 (w64 (v2 - 1)) (at_ v3 (w64 (v2 - 1)) fun x22 => (bif (x21 == x22) then (bif (decide (0 < v3.length) && (decide (0 ≤ v2) && decide (v2 ≤ (v3.length : Int)))) then (slices_Compact__int_L9 g g v2 v2 (v3.length : Int) 1 v3 (fun e36 e37 => (bif (decide (0 < e37.length) && (decide (0 ≤ e36) && decide (e36 ≤ (e37.length : Int)))) then (bif (decide (0 ≤ e36) && (decide (e36 ≤ (e37.length : Int)) && decide (((e37.length : Int)).toNat ≤ e37.length))) then (bif (decide (0 ≤ e36) && decide (e36 ≤ ((e37.take (e36).toNat ++ (List.replicate ((e37.length : Int) - e36).toNat 0 ++ e37.drop ((e37.length : Int)).toNat)).length : Int))) then e0 ((e37.take (e36).toNat ++ (List.replicate ((e37.length : Int) - e36).toNat 0 ++ e37.drop ((e37.length : Int)).toNat)).take (e36 : Int).toNat) else none) else none) else none))) else none) else slices_Compact__int_L4 g n (w64 (v2 + 1)) v3 e0 e1))))) else e1 v3)
def slices_Compact__int_ (g : Nat) (a1 : List Int) {R : Type} (k0 : List Int → Option R) : Option R :=
  (bif (decide ((a1.length : Int) < 2)) then k0 a1 else (slices_Compact__int_L4 g g 1 a1 (fun e38 => k0 e38) (fun e39 => k0 e39)))
noncomputable def slices_Compact__int [Fuel] : T_slices_Compact__int := @slices_Compact__int_ NN
def SS_slices_Compact__int (g : T_slices_Compact__int) : Spec A := fun args => match args with | [.arr 3 a1] => fun k => g a1 (fun z0 => k (.arr 3 z0) [.undef]) | _ => fun _ => none
def sh_slices_Compact__int_L9 : SSt := mkSh 61 6 [(0, .own 3 0), (3, .int .i64), (4, .vw 3 0), (5, .int .i64)] [(0, .row 3)]
def LP_slices_Compact__int_L9 (g : Nat) (n : Nat) : LPT A := fun ps => match ps with | [.d (.int .i64 p1), .z p2, .z p3, .d (.int .i64 p4), .d (.sl 3 p5)] => fun K => slices_Compact__int_L9 g n p1 p2 p3 p4 p5 (fun z0 z1 => K (.exit 2) (mkSt 61 6 [(0, .own 3 0), (3, .d (.int .i64 z0))] [(0, some (.row 3 z1))])) | _ => fun _ => none
def sh_slices_Compact__int_L4 : SSt := mkSh 61 6 [(0, .own 3 0), (3, .int .i64)] [(0, .row 3)]
def LP_slices_Compact__int_L4 (g : Nat) (n : Nat) : LPT A := fun ps => match ps with | [.d (.int .i64 p1), .d (.sl 3 p2)] => fun K => slices_Compact__int_L4 g n p1 p2 (fun z0 => K .ret (mkSt 61 6 [(0, .own 3 0), (2, .own 3 5)] [(5, some (.row 3 z0))])) (fun z0 => K (.exit 0) (mkSt 61 6 [(0, .own 3 0)] [(0, some (.row 3 z0))])) | _ => fun _ => none
noncomputable def code_205 : Code := (Tryz.f205.body).getD .skip
noncomputable def E_slices_Compact__int (g : Nat) : Env A := mkE [] [(28, [1, 2]), (56, [3, 4]), (59, [5])] [(9, ⟨[0, 3, 4, 5], [], [0], []⟩), (4, ⟨[0, 3], [], [0], []⟩)] [(9, ⟨[0, 3], [], [0], []⟩), (4, ⟨[0, 2], [], [0, 5], []⟩)] [(9, pieceOf sh_slices_Compact__int_L9 (LP_slices_Compact__int_L9 g g)), (4, pieceOf sh_slices_Compact__int_L4 (LP_slices_Compact__int_L4 g g))] [] [] [] [] []
theorem ct_slices_Compact__int [Fuel] : NatTab (E_slices_Compact__int NN).C := ct_of (P := Tryz.prog) (T := T) .nil (by kernel_rfl)
noncomputable def cb_slices_Compact__int_L9 : Code := sub [1, 1, 0, 1, 0, 0, 1, 0, 0, 1, 0, 1, 0, 1, 0, 0] code_205
theorem s_slices_Compact__int_L9 (g : Nat) (n : Nat) : StepOk (E_slices_Compact__int g) g cb_slices_Compact__int_L9 sh_slices_Compact__int_L9 (LP_slices_Compact__int_L9 g) n := by intro ps; unfold LP_slices_Compact__int_L9; split; exact .inr fun R K => (by kernel_rfl); exact .inl fun R K => rfl
theorem lf_slices_Compact__int_L9 [Fuel] : LoopFine (E_slices_Compact__int NN) NN cb_slices_Compact__int_L9 := fine_loop sh_slices_Compact__int_L9 (LP_slices_Compact__int_L9 NN) (by kernel_rfl) ct_slices_Compact__int (cuts0 (fun _ => rfl) (by kernel_rfl)) (fun ps R K => by unfold LP_slices_Compact__int_L9; split <;> (try unfold slices_Compact__int_L9) <;> rfl) (s_slices_Compact__int_L9 NN)
noncomputable def cb_slices_Compact__int_L4 : Code := sub [1, 1, 0, 1, 0, 0] code_205
theorem s_slices_Compact__int_L4 (g : Nat) (n : Nat) : StepOk (E_slices_Compact__int g) g cb_slices_Compact__int_L4 sh_slices_Compact__int_L4 (LP_slices_Compact__int_L4 g) n := by intro ps; unfold LP_slices_Compact__int_L4; split; exact .inr fun R K => (by kernel_rfl); exact .inl fun R K => rfl
theorem lf_slices_Compact__int_L4 [Fuel] : LoopFine (E_slices_Compact__int NN) NN cb_slices_Compact__int_L4 := fine_loop sh_slices_Compact__int_L4 (LP_slices_Compact__int_L4 NN) (by kernel_rfl) ct_slices_Compact__int (cutsL (fun _ => rfl) (.cons lf_slices_Compact__int_L9 .nil) (by kernel_rfl)) (fun ps R K => by unfold LP_slices_Compact__int_L4; split <;> (try unfold slices_Compact__int_L4) <;> rfl) (s_slices_Compact__int_L4 NN)
theorem sm_slices_Compact__int (g : Nat) : Same (SS_slices_Compact__int (@slices_Compact__int_ g)) (abody (E_slices_Compact__int g) Tryz.f205 code_205 6 [0] [.arr 3] g) := by intro args; unfold SS_slices_Compact__int; split; exact .inr fun R k => (by kernel_rfl); exact .inl fun R k => rfl
theorem ok_slices_Compact__int [Fuel] : Ok 205 (SS_slices_Compact__int (@slices_Compact__int _)) := okF_of std .nil ⟨rfl, rfl, by kernel_rfl, rfl, rfl⟩ (sm_slices_Compact__int NN) (cutsL (fun _ => rfl) (.cons lf_slices_Compact__int_L9 (.cons lf_slices_Compact__int_L4 .nil)) (by kernel_rfl)) Tryz.func205 (by kernel_rfl) (by kernel_rfl)
end Go.Am
