/- The functions of the program as Lean functions, each shown to be what the code computes, part 6. No condition: lemmas for the claim. -/
import Derived.Test.YtecelackdggokaaGreatDoorF0
import Derived.Test.YtecelackdggokaaGreatDoorFSh
import Derived.Test.YtecelackdggokaaGreatDoorF1
import Derived.Test.YtecelackdggokaaGreatDoorF2
import Derived.Test.YtecelackdggokaaGreatDoorF3
import Derived.Test.YtecelackdggokaaGreatDoorF4
import Derived.Test.YtecelackdggokaaGreatDoorF5
set_option linter.unusedVariables false
set_option maxRecDepth 100000
namespace Go.Am
open Go Go.Proofs
abbrev T_slices_Equal__Row_n1 : Type 1 := List G_Row → {R : Type} → (Bool → Option R) → Option R
def slices_Equal__Row_n1_L4 (g : Nat) : Nat → List G_Row → Int → Int → {R : Type} → Option R → Option R
  | 0, _, _, _, _, _ => none
  | n + 1, v2, v3, v4, _, e0 => (bif (decide (v4 < v3)) then (get_ v2 v4 fun x6 => none) else e0)
def slices_Equal__Row_n1_ (g : Nat) (a1 : List G_Row) {R : Type} (k0 : Bool → Option R) : Option R :=
  (bif ((a1.length : Int) != 0) then k0 false else (slices_Equal__Row_n1_L4 g g a1 (a1.length : Int) 0 (k0 true)))
noncomputable def slices_Equal__Row_n1 [Fuel] : T_slices_Equal__Row_n1 := @slices_Equal__Row_n1_ NN
def SS_slices_Equal__Row_n1 (g : T_slices_Equal__Row_n1) : Spec A := fun args => match args with | [.d (.sl 98 a1), .d .nsl] => fun k => g a1 (fun z0 => k (.d (.bool z0)) [.undef, .undef]) | _ => fun _ => none
def sh_slices_Equal__Row_n1_L4 : SSt := mkSh 26 0 [(0, .sl 98), (1, .nsl), (12, .int .i64), (13, .int .i64)] []
def LP_slices_Equal__Row_n1_L4 (g : Nat) (n : Nat) : LPT A := fun ps => match ps with | [.d (.sl 98 p1), .d (.int .i64 p2), .d (.int .i64 p3)] => fun K => slices_Equal__Row_n1_L4 g n p1 p2 p3 (K (.exit 0) (mkSt 26 0 [] [])) | _ => fun _ => none
noncomputable def E_slices_Equal__Row_n1 (g : Nat) : Env A := mkE [] [] [(4, ⟨[0, 1, 12, 13], [], [], []⟩)] [(4, ⟨[], [], [], []⟩)] [(4, pieceOf sh_slices_Equal__Row_n1_L4 (LP_slices_Equal__Row_n1_L4 g g))] [] [] [] [] []
theorem ct_slices_Equal__Row_n1 [Fuel] : NatTab (E_slices_Equal__Row_n1 NN).C := ct_of (P := Tryz.prog) (T := T) .nil (by kernel_rfl)
noncomputable def cb_slices_Equal__Row_n1_L4 : Code := sub [1, 1, 0, 1, 0, 0] code_68
theorem s_slices_Equal__Row_n1_L4 (g : Nat) (n : Nat) : StepOk (E_slices_Equal__Row_n1 g) g cb_slices_Equal__Row_n1_L4 sh_slices_Equal__Row_n1_L4 (LP_slices_Equal__Row_n1_L4 g) n := by intro ps; unfold LP_slices_Equal__Row_n1_L4; split; exact .inr fun R K => (by kernel_rfl); exact .inl fun R K => rfl
theorem lf_slices_Equal__Row_n1_L4 [Fuel] : LoopFine (E_slices_Equal__Row_n1 NN) NN cb_slices_Equal__Row_n1_L4 := fine_loop sh_slices_Equal__Row_n1_L4 (LP_slices_Equal__Row_n1_L4 NN) (by kernel_rfl) ct_slices_Equal__Row_n1 (cuts0 (fun _ => rfl) (by kernel_rfl)) (fun ps R K => by unfold LP_slices_Equal__Row_n1_L4; split <;> (try unfold slices_Equal__Row_n1_L4) <;> rfl) (s_slices_Equal__Row_n1_L4 NN)
theorem sm_slices_Equal__Row_n1 (g : Nat) : Same (SS_slices_Equal__Row_n1 (@slices_Equal__Row_n1_ g)) (abody (E_slices_Equal__Row_n1 g) Tryz.f68 code_68 0 [] [.asis] g) := by intro args; unfold SS_slices_Equal__Row_n1; split; exact .inr fun R k => (by kernel_rfl); exact .inl fun R k => rfl
theorem ok_slices_Equal__Row_n1 [Fuel] : Ok 68 (SS_slices_Equal__Row_n1 (@slices_Equal__Row_n1 _)) := okF_of std .nil ⟨rfl, rfl, by kernel_rfl, rfl, rfl⟩ (sm_slices_Equal__Row_n1 NN) (cutsL (fun _ => rfl) (.cons lf_slices_Equal__Row_n1_L4 .nil) (by kernel_rfl)) Tryz.func68 (by kernel_rfl) (by kernel_rfl)
abbrev T_law_SegmentsPermit : Type 1 := List Int → {R : Type} → (Bool → Option R) → Option R
structure C_law_SegmentsPermit where
  N : Nat
  law_errs : T_law_errs
  Stream_Pick : T_Stream_Pick
  Q_MomentFault : T_Q_MomentFault
  Stream_Segments : T_Stream_Segments
  Stream_Some : T_Stream_Some
  Stream_Near : T_Stream_Near
  Stream_Wide : T_Stream_Wide
  band_May : T_band_May
  band_Windows : T_band_Windows
  band_Lost : T_band_Lost
  Q_SegmentsFault : T_Q_SegmentsFault
  law_nameFault : T_law_nameFault
  law_hertzFault : T_law_hertzFault
  law_widthFault : T_law_widthFault
  law_modeFault : T_law_modeFault
  Q_WindowsOf : T_Q_WindowsOf
  Q_LostOfClass : T_Q_LostOfClass
  band_CheckSegments : T_band_CheckSegments
  Q_MayFor : T_Q_MayFor
  slices_Equal__Row : T_slices_Equal__Row
  slices_Equal__Row_n1 : T_slices_Equal__Row_n1
  law_banded : T_law_banded
def law_SegmentsPermit_J14 (g : C_law_SegmentsPermit) (v128 : List UInt8) (v129 v130 v131 v132 : Int) (v133 : Bool) (v134 v135 v136 v137 v138 v139 : Int) (v140 : List G_Segment) (v141 v142 v143 v144 : List G_Row) {R : Type} (e0 : Bool → Option R) : Option R :=
  (g.band_CheckSegments v140 (fun r154 => (g.Q_SegmentsFault v140 (fun r155 => (bif (r154 == r155) then (bif (v134 == v137) then (bif (v137 == 0) then (g.Q_MayFor v140 v128 v129 v130 v131 v132 (fun r156 => (bif (v133 == r156) then (bif (v135 == v138) then (g.slices_Equal__Row v141 v143 (fun r157 => (bif r157 then (bif (v136 == v139) then (g.slices_Equal__Row v142 v144 (fun r158 => (bif r158 then (g.law_banded (fun r159 => e0 r159)) else e0 false))) else e0 false) else e0 false))) else e0 false) else e0 false))) else (bif (v133 == false) then (bif (v135 == v138) then (g.slices_Equal__Row v141 v143 (fun r160 => (bif r160 then (bif (v136 == v139) then (g.slices_Equal__Row v142 v144 (fun r161 => (bif r161 then (g.law_banded (fun r162 => e0 r162)) else e0 false))) else e0 false) else e0 false))) else e0 false) else e0 false)) else e0 false) else e0 false)))))
def law_SegmentsPermit_J12 (g : C_law_SegmentsPermit) (v71 : List UInt8) (v72 v73 v74 v75 v76 : Int) (v77 : Bool) (v78 v79 v80 v81 v82 v83 : Int) (v84 : List G_Segment) (v85 v86 v87 : List G_Row) {R : Type} (e0 : Bool → Option R) : Option R :=
  (bif (v83 == 0) then (g.Q_LostOfClass v84 v71 v75 v76 (fun r163 => (law_SegmentsPermit_J14 g v71 v72 v73 v74 v75 v77 v78 v79 v80 v81 v82 v83 v84 v85 v86 v87 r163 (fun e164 => e0 e164)))) else (law_SegmentsPermit_J14 g v71 v72 v73 v74 v75 v77 v78 v79 v80 v81 v82 v83 v84 v85 v86 v87 [] (fun e165 => e0 e165)))
def law_SegmentsPermit_ (g : C_law_SegmentsPermit) (a1 : List Int) {R : Type} (k0 : Bool → Option R) : Option R :=
  (g.Stream_Segments (⟨a1, 0⟩ : G_Stream) (fun r16 r17 => (g.Stream_Some r17 [[102, 117, 108, 108], [102, 117, 108, 108], [115, 109, 97, 108, 108], [110, 111, 110, 101], []] (fun r18 r19 => (g.Stream_Near r19 (fun r20 r21 => (g.Stream_Wide r21 (fun r22 r23 => (g.Stream_Pick r23 [1, 1, 2, 3, 0, 4] (fun r24 r25 => (g.Stream_Pick r25 [0, 20, 60, 200, (-1)] (fun r26 r27 => (g.Stream_Pick r27 [0, 20, 60, 200, 2000, (-1)] (fun r28 r29 => (g.band_May r16 r18 r20 r22 r24 r26 (fun r32 r33 => (g.band_Windows r16 r18 r24 r26 (fun r36 r37 => (g.band_Lost r16 r18 r26 r28 (fun r40 r41 => (g.Q_SegmentsFault r16 (fun r45 => (g.law_nameFault r18 (fun r46 => (g.law_errs [r45, r46] (fun r47 => (g.law_hertzFault r20 (fun r53 => (g.law_widthFault r22 (fun r54 => (g.law_modeFault r24 (fun r55 => (g.Q_MomentFault r26 (fun r56 => (g.law_errs [r47, r53, r54, r55, r56] (fun r57 => (g.law_modeFault r24 (fun r64 => (g.Q_MomentFault r26 (fun r65 => (g.law_errs [r47, r64, r65] (fun r66 => (g.Q_MomentFault r26 (fun r67 => (g.Q_MomentFault r28 (fun r68 => (g.law_errs [r47, r67, r68] (fun r69 => (bif (r66 == 0) then (g.Q_WindowsOf r16 r18 r24 r26 (fun r166 => (law_SegmentsPermit_J12 g r18 r20 r22 r24 r26 r28 r32 r33 r37 r41 r57 r66 r69 r16 r36 r40 r166 (fun e167 => k0 e167)))) else (law_SegmentsPermit_J12 g r18 r20 r22 r24 r26 r28 r32 r33 r37 r41 r57 r66 r69 r16 r36 r40 [] (fun e168 => k0 e168)))))))))))))))))))))))))))))))))))))))))))))))))))
noncomputable def I_law_SegmentsPermit [Fuel] : C_law_SegmentsPermit := ⟨NN, @law_errs _, @Stream_Pick _, @Q_MomentFault _, @Stream_Segments _, @Stream_Some _, @Stream_Near _, @Stream_Wide _, @band_May _, @band_Windows _, @band_Lost _, @Q_SegmentsFault _, @law_nameFault _, @law_hertzFault _, @law_widthFault _, @law_modeFault _, @Q_WindowsOf _, @Q_LostOfClass _, @band_CheckSegments _, @Q_MayFor _, @slices_Equal__Row _, @slices_Equal__Row_n1 _, @law_banded _⟩
noncomputable def law_SegmentsPermit [Fuel] : T_law_SegmentsPermit := @law_SegmentsPermit_ I_law_SegmentsPermit
def SS_law_SegmentsPermit (g : T_law_SegmentsPermit) : Spec A := fun args => match args with | [.d (.sl 3 a1)] => fun k => g a1 (fun z0 => k (.d (.bool z0)) [.undef]) | _ => fun _ => none
def sh_law_SegmentsPermit_J14 : SSt := mkSh 163 16 [(4, .own 172 1), (5, .str), (6, .int .i64), (7, .int .i64), (8, .int .i64), (9, .int .i64), (11, .bool), (12, .int .i64), (13, .own 98 6), (14, .int .i64), (15, .own 98 7), (16, .int .i64), (18, .int .i64), (19, .int .i64), (20, .int .i64), (21, .own 98 13), (22, .own 98 15)] [(1, .row 172), (6, .row 98), (7, .row 98), (13, .row 98), (15, .row 98)]
def LP_law_SegmentsPermit_J14 (g : C_law_SegmentsPermit) : LPT A := fun ps => match ps with | [.d (.str p1), .d (.int .i64 p2), .d (.int .i64 p3), .d (.int .i64 p4), .d (.int .i64 p5), .d (.bool p6), .d (.int .i64 p7), .d (.int .i64 p8), .d (.int .i64 p9), .d (.int .i64 p10), .d (.int .i64 p11), .d (.int .i64 p12), .d (.sl 172 p13), .d (.sl 98 p14), .d (.sl 98 p15), .d (.sl 98 p16), .d (.sl 98 p17)] => fun K => law_SegmentsPermit_J14 g p1 p2 p3 p4 p5 p6 p7 p8 p9 p10 p11 p12 p13 p14 p15 p16 p17 (fun z0 => K .ret (mkSt 163 16 [(2, .d (.bool z0))] [])) | _ => fun _ => none
def sh_law_SegmentsPermit_J12 : SSt := mkSh 163 16 [(4, .own 172 1), (5, .str), (6, .int .i64), (7, .int .i64), (8, .int .i64), (9, .int .i64), (10, .int .i64), (11, .bool), (12, .int .i64), (13, .own 98 6), (14, .int .i64), (15, .own 98 7), (16, .int .i64), (18, .int .i64), (19, .int .i64), (20, .int .i64), (21, .own 98 13), (22, .nsl)] [(1, .row 172), (6, .row 98), (7, .row 98), (13, .row 98)]
def LP_law_SegmentsPermit_J12 (g : C_law_SegmentsPermit) : LPT A := fun ps => match ps with | [.d (.str p1), .d (.int .i64 p2), .d (.int .i64 p3), .d (.int .i64 p4), .d (.int .i64 p5), .d (.int .i64 p6), .d (.bool p7), .d (.int .i64 p8), .d (.int .i64 p9), .d (.int .i64 p10), .d (.int .i64 p11), .d (.int .i64 p12), .d (.int .i64 p13), .d (.sl 172 p14), .d (.sl 98 p15), .d (.sl 98 p16), .d (.sl 98 p17)] => fun K => law_SegmentsPermit_J12 g p1 p2 p3 p4 p5 p6 p7 p8 p9 p10 p11 p12 p13 p14 p15 p16 p17 (fun z0 => K .ret (mkSt 163 16 [(2, .d (.bool z0))] [])) | _ => fun _ => none
noncomputable def code_6 : Code := (Tryz.f6.body).getD .skip
def CS_law_SegmentsPermit (g : C_law_SegmentsPermit) : List (Nat × Piece A) := [(14, pieceOf sh_law_SegmentsPermit_J14 (LP_law_SegmentsPermit_J14 g)), (12, pieceOf sh_law_SegmentsPermit_J12 (LP_law_SegmentsPermit_J12 g))]
noncomputable def E_law_SegmentsPermit (g : C_law_SegmentsPermit) : Env A := mkE [(15, SS_law_errs g.law_errs), (26, SS_Stream_Pick g.Stream_Pick), (31, SS_Q_MomentFault g.Q_MomentFault), (52, SS_Stream_Segments g.Stream_Segments), (53, SS_Stream_Some g.Stream_Some), (54, SS_Stream_Near g.Stream_Near), (55, SS_Stream_Wide g.Stream_Wide), (56, SS_band_May g.band_May), (57, SS_band_Windows g.band_Windows), (58, SS_band_Lost g.band_Lost), (59, SS_Q_SegmentsFault g.Q_SegmentsFault), (60, SS_law_nameFault g.law_nameFault), (61, SS_law_hertzFault g.law_hertzFault), (62, SS_law_widthFault g.law_widthFault), (63, SS_law_modeFault g.law_modeFault), (64, SS_Q_WindowsOf g.Q_WindowsOf), (65, SS_Q_LostOfClass g.Q_LostOfClass), (66, SS_band_CheckSegments g.band_CheckSegments), (67, SS_Q_MayFor g.Q_MayFor), (68, orS p_slices_Equal__Row (SS_slices_Equal__Row g.slices_Equal__Row) (SS_slices_Equal__Row_n1 g.slices_Equal__Row_n1)), (69, SS_law_banded g.law_banded)] [(25, [0]), (27, [1]), (29, [2]), (36, [3]), (39, [4]), (42, [5]), (59, [6]), (67, [7]), (74, [8]), (85, [9]), (92, [10]), (99, [11]), (107, [12]), (114, [14])] [] [] [] [(14, ⟨[4, 5, 6, 7, 8, 9, 11, 12, 13, 14, 15, 16, 18, 19, 20, 21, 22], [(22, 98, 15)], [1, 6, 7, 13], []⟩), (12, ⟨[4, 5, 6, 7, 8, 9, 10, 11, 12, 13, 14, 15, 16, 18, 19, 20, 21, 22], [(21, 98, 13)], [1, 6, 7], []⟩)] [(14, ⟨[2], [], [], []⟩), (12, ⟨[2], [], [], []⟩)] (CS_law_SegmentsPermit g) [] []
theorem ct_law_SegmentsPermit [Fuel] : NatTab (E_law_SegmentsPermit I_law_SegmentsPermit).C := ct_of (P := Tryz.prog) (T := T) (.cons ok_law_errs (.cons ok_Stream_Pick (.cons ok_Q_MomentFault (.cons ok_Stream_Segments (.cons ok_Stream_Some (.cons ok_Stream_Near (.cons ok_Stream_Wide (.cons ok_band_May (.cons ok_band_Windows (.cons ok_band_Lost (.cons ok_Q_SegmentsFault (.cons ok_law_nameFault (.cons ok_law_hertzFault (.cons ok_law_widthFault (.cons ok_law_modeFault (.cons ok_Q_WindowsOf (.cons ok_Q_LostOfClass (.cons ok_band_CheckSegments (.cons ok_Q_MayFor (.cons (ok_or p_slices_Equal__Row ok_slices_Equal__Row ok_slices_Equal__Row_n1) (.cons ok_law_banded .nil))))))))))))))))))))) (by kernel_rfl)
noncomputable def cb_law_SegmentsPermit_J14 : Code := sub [1, 1, 1, 1, 1, 1, 1, 1, 1, 1, 1, 1] code_6
theorem s_law_SegmentsPermit_J14 (g : C_law_SegmentsPermit) : JumpOk (E_law_SegmentsPermit g) g.N cb_law_SegmentsPermit_J14 sh_law_SegmentsPermit_J14 (LP_law_SegmentsPermit_J14 g) := by intro ps; unfold LP_law_SegmentsPermit_J14; split; exact .inr fun R K => (by kernel_rfl); exact .inl fun R K => rfl
theorem sf_law_SegmentsPermit_J14 [Fuel] : SeqFine (E_law_SegmentsPermit I_law_SegmentsPermit) NN cb_law_SegmentsPermit_J14 := fine_jump sh_law_SegmentsPermit_J14 (LP_law_SegmentsPermit_J14 I_law_SegmentsPermit) (by kernel_rfl) ct_law_SegmentsPermit (cutsJ (cs := CS_law_SegmentsPermit I_law_SegmentsPermit) rfl .nil .nil (by kernel_rfl) (by kernel_rfl)) (s_law_SegmentsPermit_J14 I_law_SegmentsPermit)
noncomputable def cb_law_SegmentsPermit_J12 : Code := sub [1, 1, 1, 1, 1, 1, 1, 1, 1, 1, 1] code_6
theorem s_law_SegmentsPermit_J12 (g : C_law_SegmentsPermit) : JumpOk (E_law_SegmentsPermit g) g.N cb_law_SegmentsPermit_J12 sh_law_SegmentsPermit_J12 (LP_law_SegmentsPermit_J12 g) := by intro ps; unfold LP_law_SegmentsPermit_J12; split; exact .inr fun R K => (by kernel_rfl); exact .inl fun R K => rfl
theorem sf_law_SegmentsPermit_J12 [Fuel] : SeqFine (E_law_SegmentsPermit I_law_SegmentsPermit) NN cb_law_SegmentsPermit_J12 := fine_jump sh_law_SegmentsPermit_J12 (LP_law_SegmentsPermit_J12 I_law_SegmentsPermit) (by kernel_rfl) ct_law_SegmentsPermit (cutsJ (cs := CS_law_SegmentsPermit I_law_SegmentsPermit) rfl .nil (.cons sf_law_SegmentsPermit_J14 .nil) (by kernel_rfl) (by kernel_rfl)) (s_law_SegmentsPermit_J12 I_law_SegmentsPermit)
theorem sm_law_SegmentsPermit (g : C_law_SegmentsPermit) : Same (SS_law_SegmentsPermit (@law_SegmentsPermit_ g)) (abody (E_law_SegmentsPermit g) Tryz.f6 code_6 16 [] [.asis] g.N) := by intro args; unfold SS_law_SegmentsPermit; split; exact .inr fun R k => (by kernel_rfl); exact .inl fun R k => rfl
theorem ok_law_SegmentsPermit [Fuel] : Ok 6 (SS_law_SegmentsPermit (@law_SegmentsPermit _)) := okF_of std (.cons ok_law_errs (.cons ok_Stream_Pick (.cons ok_Q_MomentFault (.cons ok_Stream_Segments (.cons ok_Stream_Some (.cons ok_Stream_Near (.cons ok_Stream_Wide (.cons ok_band_May (.cons ok_band_Windows (.cons ok_band_Lost (.cons ok_Q_SegmentsFault (.cons ok_law_nameFault (.cons ok_law_hertzFault (.cons ok_law_widthFault (.cons ok_law_modeFault (.cons ok_Q_WindowsOf (.cons ok_Q_LostOfClass (.cons ok_band_CheckSegments (.cons ok_Q_MayFor (.cons (ok_or p_slices_Equal__Row ok_slices_Equal__Row ok_slices_Equal__Row_n1) (.cons ok_law_banded .nil))))))))))))))))))))) ⟨rfl, rfl, by kernel_rfl, rfl, rfl⟩ (sm_law_SegmentsPermit I_law_SegmentsPermit) (cutsJ (cs := CS_law_SegmentsPermit I_law_SegmentsPermit) rfl .nil (.cons sf_law_SegmentsPermit_J14 (.cons sf_law_SegmentsPermit_J12 .nil)) (by kernel_rfl) (by kernel_rfl)) Tryz.func6 (by kernel_rfl) (by kernel_rfl)
end Go.Am
