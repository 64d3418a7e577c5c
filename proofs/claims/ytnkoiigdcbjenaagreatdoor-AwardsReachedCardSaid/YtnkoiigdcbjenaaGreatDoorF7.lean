/- The functions of the program as Lean functions, each shown to be what the code computes, part 7. No condition: lemmas for the claim. -/
import Derived.Test.YtnkoiigdcbjenaaGreatDoorF0
import Derived.Test.YtnkoiigdcbjenaaGreatDoorFSh
import Derived.Test.YtnkoiigdcbjenaaGreatDoorF1
import Derived.Test.YtnkoiigdcbjenaaGreatDoorF2
import Derived.Test.YtnkoiigdcbjenaaGreatDoorF4
import Derived.Test.YtnkoiigdcbjenaaGreatDoorF5
import Derived.Test.YtnkoiigdcbjenaaGreatDoorF6
set_option linter.unusedVariables false
set_option maxRecDepth 100000
namespace Go.Am
open Go Go.Proofs
abbrev T_law_AwardsReached : Type 1 := List Int → {R : Type} → (Bool → Option R) → Option R
structure C_law_AwardsReached where
  N : Nat
  Stream_Awards : T_Stream_Awards
  Stream_Cards : T_Stream_Cards
  Stream_Range : T_Stream_Range
  Stream_Pick : T_Stream_Pick
  Stream_Next : T_Stream_Next
  club_Progress : T_club_Progress
  club_When : T_club_When
  law_errs : T_law_errs
  Q_AwardsFault : T_Q_AwardsFault
  Q_CardsFault : T_Q_CardsFault
  Q_MomentFault : T_Q_MomentFault
  Q_ProgressOf : T_Q_ProgressOf
  Q_WhenOf : T_Q_WhenOf
  club_CheckAwards : T_club_CheckAwards
  slices_Equal__Pair : T_slices_Equal__Pair
  slices_Equal__Pair_n1 : T_slices_Equal__Pair_n1
  law_joinedClub : T_law_joinedClub
def law_AwardsReached_J15 (g : C_law_AwardsReached) (v173 v174 : Int) (v175 : Bool) (v176 v177 v178 v179 : Int) (v180 : Bool) (v181 : List G_Award) (v182 v183 : List G_Pair) {R : Type} (e0 : Bool → Option R) : Option R :=
  (g.club_CheckAwards v181 (fun r188 => (g.Q_AwardsFault v181 (fun r189 => (bif (r188 == r189) then (bif (v173 == v177) then (g.slices_Equal__Pair v182 v183 (fun r190 => (bif r190 then (bif (v176 == v178) then (bif (v174 == v179) then (bif (v175 == v180) then (g.law_joinedClub (fun r191 => e0 r191)) else e0 false) else e0 false) else e0 false) else e0 false))) else e0 false) else e0 false)))))
def law_AwardsReached_J12 (g : C_law_AwardsReached) (v135 v136 : Int) (v137 : Bool) (v138 v139 v140 : Int) (v141 : List G_Award) (v142 : List G_Card) (v143 : G_Award) (v144 v145 : List G_Pair) {R : Type} (e0 : Bool → Option R) : Option R :=
  (bif (v140 == 0) then (g.Q_WhenOf v143 v142 (fun r192 r193 => (law_AwardsReached_J15 g v135 v136 v137 v138 v139 v140 r192 r193 v141 v144 v145 (fun e194 => e0 e194)))) else (law_AwardsReached_J15 g v135 v136 v137 v138 v139 v140 0 false v141 v144 v145 (fun e195 => e0 e195)))
def law_AwardsReached_J6 (g : C_law_AwardsReached) (v29 : Int) (v30 : List G_Award) (v31 : List G_Card) (v32 : G_Award) {R : Type} (e0 : Bool → Option R) : Option R :=
  (g.club_Progress v30 v31 v29 (fun r122 r123 => (g.club_When v32 v31 (fun r124 r125 r126 => (g.Q_AwardsFault v30 (fun r127 => (g.Q_CardsFault v31 (fun r128 => (g.Q_MomentFault v29 (fun r129 => (g.law_errs [r127, r128, r129] (fun r130 => (g.Q_AwardsFault [v32] (fun r131 => (g.Q_CardsFault v31 (fun r132 => (g.law_errs [r131, r132] (fun r133 => (bif (r130 == 0) then (g.Q_ProgressOf v30 v31 v29 (fun r196 => (law_AwardsReached_J12 g r123 r124 r125 r126 r130 r133 v30 v31 v32 r122 r196 (fun e197 => e0 e197)))) else (law_AwardsReached_J12 g r123 r124 r125 r126 r130 r133 v30 v31 v32 r122 [] (fun e198 => e0 e198)))))))))))))))))))))
def law_AwardsReached_ (g : C_law_AwardsReached) (a1 : List Int) {R : Type} (k0 : Bool → Option R) : Option R :=
  (g.Stream_Awards (⟨a1, 0⟩ : G_Stream) (fun r10 r11 => (g.Stream_Range r11 0 14 (fun r12 r13 => (g.Stream_Cards r13 r12 (fun r14 r15 => (g.Stream_Pick r15 [0, 10, 30, 60, 200, (-1)] (fun r16 r17 => (g.Stream_Range r17 1 4 (fun r22 r23 => (g.Stream_Range r23 1 3 (fun r24 r25 => (bif (decide ((r10.length : Int) > 0)) then (g.Stream_Next r25 (r10.length : Int) (fun r199 r200 => (inr r10 r199 (at_ r10 r199 fun x201 => (law_AwardsReached_J6 g r16 r10 r14 x201 (fun e202 => k0 e202)))))) else (law_AwardsReached_J6 g r16 r10 r14 (⟨[122], [], r22, r24⟩ : G_Award) (fun e203 => k0 e203)))))))))))))))
noncomputable def I_law_AwardsReached [Fuel] : C_law_AwardsReached := ⟨NN, @Stream_Awards _, @Stream_Cards _, @Stream_Range _, @Stream_Pick _, @Stream_Next _, @club_Progress _, @club_When _, @law_errs _, @Q_AwardsFault _, @Q_CardsFault _, @Q_MomentFault _, @Q_ProgressOf _, @Q_WhenOf _, @club_CheckAwards _, @slices_Equal__Pair _, @slices_Equal__Pair_n1 _, @law_joinedClub _⟩
noncomputable def law_AwardsReached [Fuel] : T_law_AwardsReached := @law_AwardsReached_ I_law_AwardsReached
def SS_law_AwardsReached (g : T_law_AwardsReached) : Spec A := fun args => match args with | [.d (.sl 3 a1)] => fun k => g a1 (fun z0 => k (.d (.bool z0)) [.undef]) | _ => fun _ => none
def sh_law_AwardsReached_J15 : SSt := mkSh 121 11 [(4, .own 33 1), (8, .own 50 5), (9, .int .i64), (10, .int .i64), (11, .bool), (12, .int .i64), (13, .int .i64), (14, .int .i64), (15, .own 50 10), (16, .int .i64), (17, .bool)] [(1, .row 33), (5, .row 50), (10, .row 50)]
def LP_law_AwardsReached_J15 (g : C_law_AwardsReached) : LPT A := fun ps => match ps with | [.d (.int .i64 p1), .d (.int .i64 p2), .d (.bool p3), .d (.int .i64 p4), .d (.int .i64 p5), .d (.int .i64 p6), .d (.int .i64 p7), .d (.bool p8), .d (.sl 33 p9), .d (.sl 50 p10), .d (.sl 50 p11)] => fun K => law_AwardsReached_J15 g p1 p2 p3 p4 p5 p6 p7 p8 p9 p10 p11 (fun z0 => K .ret (mkSt 121 11 [(2, .d (.bool z0))] [])) | _ => fun _ => none
def sh_law_AwardsReached_J12 : SSt := mkSh 121 11 [(4, .own 33 1), (5, .own 82 2), (7, .ptr 4 0), (8, .own 50 5), (9, .int .i64), (10, .int .i64), (11, .bool), (12, .int .i64), (13, .int .i64), (14, .int .i64), (15, .own 50 10)] [(1, .row 33), (2, .row 82), (4, .box [.str, .str, .int .i64, .int .i64]), (5, .row 50), (10, .row 50)]
def LP_law_AwardsReached_J12 (g : C_law_AwardsReached) : LPT A := fun ps => match ps with | [.d (.int .i64 p1), .d (.int .i64 p2), .d (.bool p3), .d (.int .i64 p4), .d (.int .i64 p5), .d (.int .i64 p6), .d (.sl 33 p7), .d (.sl 82 p8), .d (.str p9), .d (.str p10), .d (.int .i64 p11), .d (.int .i64 p12), .d (.sl 50 p13), .d (.sl 50 p14)] => fun K => law_AwardsReached_J12 g p1 p2 p3 p4 p5 p6 p7 p8 ⟨p9, p10, p11, p12⟩ p13 p14 (fun z0 => K .ret (mkSt 121 11 [(2, .d (.bool z0))] [])) | _ => fun _ => none
def sh_law_AwardsReached_J6 : SSt := mkSh 121 11 [(4, .own 33 1), (5, .own 82 2), (6, .int .i64), (7, .ptr 4 0)] [(1, .row 33), (2, .row 82), (4, .box [.str, .str, .int .i64, .int .i64])]
def LP_law_AwardsReached_J6 (g : C_law_AwardsReached) : LPT A := fun ps => match ps with | [.d (.int .i64 p1), .d (.sl 33 p2), .d (.sl 82 p3), .d (.str p4), .d (.str p5), .d (.int .i64 p6), .d (.int .i64 p7)] => fun K => law_AwardsReached_J6 g p1 p2 p3 ⟨p4, p5, p6, p7⟩ (fun z0 => K .ret (mkSt 121 11 [(2, .d (.bool z0))] [])) | _ => fun _ => none
noncomputable def code_3 : Code := (Tryz.f3.body).getD .skip
def CS_law_AwardsReached (g : C_law_AwardsReached) : List (Nat × Piece A) := [(15, pieceOf sh_law_AwardsReached_J15 (LP_law_AwardsReached_J15 g)), (12, pieceOf sh_law_AwardsReached_J12 (LP_law_AwardsReached_J12 g)), (6, pieceOf sh_law_AwardsReached_J6 (LP_law_AwardsReached_J6 g))]
noncomputable def E_law_AwardsReached (g : C_law_AwardsReached) : Env A := mkE [(6, SS_Stream_Awards g.Stream_Awards), (7, SS_Stream_Cards g.Stream_Cards), (8, SS_Stream_Range g.Stream_Range), (9, SS_Stream_Pick g.Stream_Pick), (10, SS_Stream_Next g.Stream_Next), (11, SS_club_Progress g.club_Progress), (12, SS_club_When g.club_When), (13, SS_law_errs g.law_errs), (14, SS_Q_AwardsFault g.Q_AwardsFault), (15, SS_Q_CardsFault g.Q_CardsFault), (16, SS_Q_MomentFault g.Q_MomentFault), (17, SS_Q_ProgressOf g.Q_ProgressOf), (18, SS_Q_WhenOf g.Q_WhenOf), (19, SS_club_CheckAwards g.club_CheckAwards), (20, orS p_slices_Equal__Pair (SS_slices_Equal__Pair g.slices_Equal__Pair) (SS_slices_Equal__Pair_n1 g.slices_Equal__Pair_n1)), (21, SS_law_joinedClub g.law_joinedClub)] [(7, [4]), (20, [0]), (22, [1]), (26, [2]), (28, [3]), (49, [5]), (65, [7]), (68, [6]), (72, [8]), (79, [9])] [] [] [] [(15, ⟨[4, 8, 9, 10, 11, 12, 13, 14, 15, 16, 17], [], [1, 5, 10], []⟩), (12, ⟨[4, 5, 7, 8, 9, 10, 11, 12, 13, 14, 15], [(15, 50, 10)], [1, 2, 4, 5], []⟩), (6, ⟨[4, 5, 6, 7], [], [1, 2, 4], []⟩)] [(15, ⟨[2], [], [], []⟩), (12, ⟨[2], [], [], []⟩), (6, ⟨[2], [], [], []⟩)] (CS_law_AwardsReached g) [] []
theorem ct_law_AwardsReached [Fuel] : NatTab (E_law_AwardsReached I_law_AwardsReached).C := ct_of (P := Tryz.prog) (T := T) (.cons ok_Stream_Awards (.cons ok_Stream_Cards (.cons ok_Stream_Range (.cons ok_Stream_Pick (.cons ok_Stream_Next (.cons ok_club_Progress (.cons ok_club_When (.cons ok_law_errs (.cons ok_Q_AwardsFault (.cons ok_Q_CardsFault (.cons ok_Q_MomentFault (.cons ok_Q_ProgressOf (.cons ok_Q_WhenOf (.cons ok_club_CheckAwards (.cons (ok_or p_slices_Equal__Pair ok_slices_Equal__Pair ok_slices_Equal__Pair_n1) (.cons ok_law_joinedClub .nil)))))))))))))))) (by kernel_rfl)
noncomputable def cb_law_AwardsReached_J15 : Code := sub [1, 1, 1, 1, 1, 1, 1, 1, 1, 1, 1, 1] code_3
theorem s_law_AwardsReached_J15 (g : C_law_AwardsReached) : JumpOk (E_law_AwardsReached g) g.N cb_law_AwardsReached_J15 sh_law_AwardsReached_J15 (LP_law_AwardsReached_J15 g) := by intro ps; unfold LP_law_AwardsReached_J15; split; exact .inr fun R K => (by kernel_rfl); exact .inl fun R K => rfl
theorem sf_law_AwardsReached_J15 [Fuel] : SeqFine (E_law_AwardsReached I_law_AwardsReached) NN cb_law_AwardsReached_J15 := fine_jump sh_law_AwardsReached_J15 (LP_law_AwardsReached_J15 I_law_AwardsReached) (by kernel_rfl) ct_law_AwardsReached (cutsJ (cs := CS_law_AwardsReached I_law_AwardsReached) rfl .nil .nil (by kernel_rfl) (by kernel_rfl)) (s_law_AwardsReached_J15 I_law_AwardsReached)
noncomputable def cb_law_AwardsReached_J12 : Code := sub [1, 1, 1, 1, 1, 1, 1, 1, 1, 1] code_3
theorem s_law_AwardsReached_J12 (g : C_law_AwardsReached) : JumpOk (E_law_AwardsReached g) g.N cb_law_AwardsReached_J12 sh_law_AwardsReached_J12 (LP_law_AwardsReached_J12 g) := by intro ps; unfold LP_law_AwardsReached_J12; split; exact .inr fun R K => (by kernel_rfl); exact .inl fun R K => rfl
theorem sf_law_AwardsReached_J12 [Fuel] : SeqFine (E_law_AwardsReached I_law_AwardsReached) NN cb_law_AwardsReached_J12 := fine_jump sh_law_AwardsReached_J12 (LP_law_AwardsReached_J12 I_law_AwardsReached) (by kernel_rfl) ct_law_AwardsReached (cutsJ (cs := CS_law_AwardsReached I_law_AwardsReached) rfl .nil (.cons sf_law_AwardsReached_J15 .nil) (by kernel_rfl) (by kernel_rfl)) (s_law_AwardsReached_J12 I_law_AwardsReached)
noncomputable def cb_law_AwardsReached_J6 : Code := sub [1, 1, 1, 1, 1] code_3
theorem s_law_AwardsReached_J6 (g : C_law_AwardsReached) : JumpOk (E_law_AwardsReached g) g.N cb_law_AwardsReached_J6 sh_law_AwardsReached_J6 (LP_law_AwardsReached_J6 g) := by intro ps; unfold LP_law_AwardsReached_J6; split; exact .inr fun R K => (by kernel_rfl); exact .inl fun R K => rfl
theorem sf_law_AwardsReached_J6 [Fuel] : SeqFine (E_law_AwardsReached I_law_AwardsReached) NN cb_law_AwardsReached_J6 := fine_jump sh_law_AwardsReached_J6 (LP_law_AwardsReached_J6 I_law_AwardsReached) (by kernel_rfl) ct_law_AwardsReached (cutsJ (cs := CS_law_AwardsReached I_law_AwardsReached) rfl .nil (.cons sf_law_AwardsReached_J15 (.cons sf_law_AwardsReached_J12 .nil)) (by kernel_rfl) (by kernel_rfl)) (s_law_AwardsReached_J6 I_law_AwardsReached)
theorem sm_law_AwardsReached (g : C_law_AwardsReached) : Same (SS_law_AwardsReached (@law_AwardsReached_ g)) (abody (E_law_AwardsReached g) Tryz.f3 code_3 11 [] [.asis] g.N) := by intro args; unfold SS_law_AwardsReached; split; exact .inr fun R k => (by kernel_rfl); exact .inl fun R k => rfl
theorem ok_law_AwardsReached [Fuel] : Ok 3 (SS_law_AwardsReached (@law_AwardsReached _)) := okF_of std (.cons ok_Stream_Awards (.cons ok_Stream_Cards (.cons ok_Stream_Range (.cons ok_Stream_Pick (.cons ok_Stream_Next (.cons ok_club_Progress (.cons ok_club_When (.cons ok_law_errs (.cons ok_Q_AwardsFault (.cons ok_Q_CardsFault (.cons ok_Q_MomentFault (.cons ok_Q_ProgressOf (.cons ok_Q_WhenOf (.cons ok_club_CheckAwards (.cons (ok_or p_slices_Equal__Pair ok_slices_Equal__Pair ok_slices_Equal__Pair_n1) (.cons ok_law_joinedClub .nil)))))))))))))))) ⟨rfl, rfl, by kernel_rfl, rfl, rfl⟩ (sm_law_AwardsReached I_law_AwardsReached) (cutsJ (cs := CS_law_AwardsReached I_law_AwardsReached) rfl .nil (.cons sf_law_AwardsReached_J15 (.cons sf_law_AwardsReached_J12 (.cons sf_law_AwardsReached_J6 .nil))) (by kernel_rfl) (by kernel_rfl)) Tryz.func3 (by kernel_rfl) (by kernel_rfl)
end Go.Am
