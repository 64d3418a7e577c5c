/- The functions of the program as Lean functions, each shown to be what the code computes, part 7. No condition: lemmas for the claim. -/
import Derived.Test.YtnkoiigdcbjenaaGreatDoorF0
import Derived.Test.YtnkoiigdcbjenaaGreatDoorFSh
import Derived.Test.YtnkoiigdcbjenaaGreatDoorF1
import Derived.Test.YtnkoiigdcbjenaaGreatDoorF2
import Derived.Test.YtnkoiigdcbjenaaGreatDoorF3
import Derived.Test.YtnkoiigdcbjenaaGreatDoorF4
import Derived.Test.YtnkoiigdcbjenaaGreatDoorF5
import Derived.Test.YtnkoiigdcbjenaaGreatDoorF6
set_option linter.unusedVariables false
set_option maxRecDepth 100000
namespace Go.Am
open Go Go.Proofs
abbrev T_club_ranked : Type 1 := List G_Place → {R : Type} → (List G_Place → Option R) → Option R
structure C_club_ranked where
  N : Nat
  slices_SortFunc__Place_club_ranked_1 : T_slices_SortFunc__Place_club_ranked_1
def club_ranked_L3 (g : C_club_ranked) : Nat → Int → Int → List G_Place → {R : Type} → (List G_Place → Option R) → Option R
  | 0, _, _, _, _, _ => none
  | n + 1, v3, v4, v5, _, e0 => (bif (decide (v4 < v3)) then (inr v5 v4 (at_ v5 v4 fun x11 => (bif (decide (v4 > 0)) then (inr (set_ v5 v4 (⟨(w64 (v4 + 1)), x11.f_Points, x11.f_Key⟩ : G_Place)) v4 (at_ (set_ v5 v4 (⟨(w64 (v4 + 1)), x11.f_Points, x11.f_Key⟩ : G_Place)) v4 fun x12 => (inr (set_ v5 v4 (⟨(w64 (v4 + 1)), x11.f_Points, x11.f_Key⟩ : G_Place)) (w64 (v4 - 1)) (at_ (set_ v5 v4 (⟨(w64 (v4 + 1)), x11.f_Points, x11.f_Key⟩ : G_Place)) (w64 (v4 - 1)) fun x13 => (bif (x12.f_Points == x13.f_Points) then (inr (set_ v5 v4 (⟨(w64 (v4 + 1)), x11.f_Points, x11.f_Key⟩ : G_Place)) (w64 (v4 - 1)) (at_ (set_ v5 v4 (⟨(w64 (v4 + 1)), x11.f_Points, x11.f_Key⟩ : G_Place)) (w64 (v4 - 1)) fun x14 => (inr (set_ v5 v4 (⟨(w64 (v4 + 1)), x11.f_Points, x11.f_Key⟩ : G_Place)) v4 (at_ (set_ v5 v4 (⟨(w64 (v4 + 1)), x11.f_Points, x11.f_Key⟩ : G_Place)) v4 fun x15 => club_ranked_L3 g n v3 (w64 (v4 + 1)) (set_ (set_ v5 v4 (⟨(w64 (v4 + 1)), x11.f_Points, x11.f_Key⟩ : G_Place)) v4 (⟨x14.f_Rank, x15.f_Points, x15.f_Key⟩ : G_Place)) e0)))) else club_ranked_L3 g n v3 (w64 (v4 + 1)) (set_ v5 v4 (⟨(w64 (v4 + 1)), x11.f_Points, x11.f_Key⟩ : G_Place)) e0))))) else club_ranked_L3 g n v3 (w64 (v4 + 1)) (set_ v5 v4 (⟨(w64 (v4 + 1)), x11.f_Points, x11.f_Key⟩ : G_Place)) e0))) else e0 v5)
def club_ranked_ (g : C_club_ranked) (a1 : List G_Place) {R : Type} (k0 : List G_Place → Option R) : Option R :=
  (g.slices_SortFunc__Place_club_ranked_1 a1 (fun r2 => (club_ranked_L3 g g.N (r2.length : Int) 0 r2 (fun e16 => k0 e16))))
noncomputable def I_club_ranked [Fuel] : C_club_ranked := ⟨NN, @slices_SortFunc__Place_club_ranked_1 _⟩
noncomputable def club_ranked [Fuel] : T_club_ranked := @club_ranked_ I_club_ranked
def SS_club_ranked (g : T_club_ranked) : Spec A := fun args => match args with | [.arr 103 a1] => fun k => g a1 (fun z0 => k (.arr 103 z0) [.undef]) | _ => fun _ => none
def sh_club_ranked_L3 : SSt := mkSh 45 1 [(0, .own 103 0), (7, .int .i64), (8, .int .i64)] [(0, .row 103)]
def LP_club_ranked_L3 (g : C_club_ranked) (n : Nat) : LPT A := fun ps => match ps with | [.d (.int .i64 p1), .d (.int .i64 p2), .d (.sl 103 p3)] => fun K => club_ranked_L3 g n p1 p2 p3 (fun z0 => K (.exit 0) (mkSt 45 1 [(0, .own 103 0)] [(0, some (.row 103 z0))])) | _ => fun _ => none
noncomputable def code_107 : Code := (Tryz.f107.body).getD .skip
noncomputable def E_club_ranked (g : C_club_ranked) : Env A := mkE [(142, SS_slices_SortFunc__Place_club_ranked_1 g.slices_SortFunc__Place_club_ranked_1)] [] [(3, ⟨[0, 7, 8], [], [0], []⟩)] [(3, ⟨[0], [], [0], []⟩)] [(3, pieceOf sh_club_ranked_L3 (LP_club_ranked_L3 g g.N))] [] [] [] [(142, 0)] []
theorem ct_club_ranked [Fuel] : NatTab (E_club_ranked I_club_ranked).C := ct_of (P := Tryz.prog) (T := T) (.cons ok_slices_SortFunc__Place_club_ranked_1 .nil) (by kernel_rfl)
noncomputable def cb_club_ranked_L3 : Code := sub [1, 1, 0, 1, 0, 0] code_107
theorem s_club_ranked_L3 (g : C_club_ranked) (n : Nat) : StepOk (E_club_ranked g) g.N cb_club_ranked_L3 sh_club_ranked_L3 (LP_club_ranked_L3 g) n := by intro ps; unfold LP_club_ranked_L3; split; exact .inr fun R K => (by kernel_rfl); exact .inl fun R K => rfl
theorem lf_club_ranked_L3 [Fuel] : LoopFine (E_club_ranked I_club_ranked) NN cb_club_ranked_L3 := fine_loop sh_club_ranked_L3 (LP_club_ranked_L3 I_club_ranked) (by kernel_rfl) ct_club_ranked (cuts0 (fun _ => rfl) (by kernel_rfl)) (fun ps R K => by unfold LP_club_ranked_L3; split <;> (try unfold club_ranked_L3) <;> rfl) (s_club_ranked_L3 I_club_ranked)
theorem sm_club_ranked (g : C_club_ranked) : Same (SS_club_ranked (@club_ranked_ g)) (abody (E_club_ranked g) Tryz.f107 code_107 1 [0] [.arr 103] g.N) := by intro args; unfold SS_club_ranked; split; exact .inr fun R k => (by kernel_rfl); exact .inl fun R k => rfl
theorem ok_club_ranked [Fuel] : Ok 107 (SS_club_ranked (@club_ranked _)) := okF_of std (.cons ok_slices_SortFunc__Place_club_ranked_1 .nil) ⟨rfl, rfl, by kernel_rfl, rfl, rfl, rfl⟩ (sm_club_ranked I_club_ranked) (cutsL (fun _ => rfl) (.cons lf_club_ranked_L3 .nil) (by kernel_rfl)) Tryz.func107 (by kernel_rfl) (by kernel_rfl)
abbrev T_club_Table : Type 1 := List G_Entrant → List UInt8 → {R : Type} → (List G_Place → Int → Option R) → Option R
structure C_club_Table where
  N : Nat
  kit_IsKey : T_kit_IsKey
  club_CheckEntrants : T_club_CheckEntrants
  club_ranked : T_club_ranked
def club_Table_L8 (g : C_club_Table) : Nat → List UInt8 → List G_Entrant → Int → Int → List G_Place → {R : Type} → (List G_Place → Option R) → Option R
  | 0, _, _, _, _, _, _, _ => none
  | n + 1, v5, v6, v7, v8, v9, _, e0 => (bif (decide (v8 < v7)) then (get_ v6 v8 fun x11 => (bif (x11.f_Category == v5) then (bif (decide ((v9.length + [(⟨0, x11.f_Points, x11.f_Call⟩ : G_Place)].length) * 32 ≤ roomBytes')) then club_Table_L8 g n v5 v6 v7 (w64 (v8 + 1)) (v9 ++ [(⟨0, x11.f_Points, x11.f_Call⟩ : G_Place)]) e0 else none) else club_Table_L8 g n v5 v6 v7 (w64 (v8 + 1)) v9 e0)) else e0 v9)
def club_Table_ (g : C_club_Table) (a1 : List G_Entrant) (a2 : List UInt8) {R : Type} (k0 : List G_Place → Int → Option R) : Option R :=
  (g.club_CheckEntrants a1 (fun r3 => (bif (r3 != 0) then k0 [] r3 else (g.kit_IsKey a2 (fun r4 => (bif (!r4) then k0 [] 5 else (club_Table_L8 g g.N a2 a1 (a1.length : Int) 0 [] (fun e12 => (g.club_ranked e12 (fun r13 => k0 r13 0))))))))))
noncomputable def I_club_Table [Fuel] : C_club_Table := ⟨NN, @kit_IsKey _, @club_CheckEntrants _, @club_ranked _⟩
noncomputable def club_Table [Fuel] : T_club_Table := @club_Table_ I_club_Table
def SS_club_Table (g : T_club_Table) : Spec A := fun args => match args with | [.d (.sl 100 a1), .d (.str a2)] => fun k => g a1 a2 (fun z0 z1 => k (.tup [.arr 103 z0, .d (.int .i64 z1)]) [.undef, .undef]) | _ => fun _ => none
def sh_club_Table_L8 : SSt := mkSh 39 5 [(1, .str), (7, .own 103 0), (18, .sl 100), (19, .int .i64), (20, .int .i64)] [(0, .row 103)]
def LP_club_Table_L8 (g : C_club_Table) (n : Nat) : LPT A := fun ps => match ps with | [.d (.str p1), .d (.sl 100 p2), .d (.int .i64 p3), .d (.int .i64 p4), .d (.sl 103 p5)] => fun K => club_Table_L8 g n p1 p2 p3 p4 p5 (fun z0 => K (.exit 0) (mkSt 39 5 [(7, .own 103 0)] [(0, some (.row 103 z0))])) | _ => fun _ => none
noncomputable def code_60 : Code := (Tryz.f60.body).getD .skip
noncomputable def E_club_Table (g : C_club_Table) : Env A := mkE [(79, SS_kit_IsKey g.kit_IsKey), (106, SS_club_CheckEntrants g.club_CheckEntrants), (107, SS_club_ranked g.club_ranked)] [(9, [1]), (34, [2]), (35, [3]), (38, [4])] [(8, ⟨[1, 7, 18, 19, 20], [(7, 103, 0)], [], []⟩)] [(8, ⟨[7], [], [0], []⟩)] [(8, pieceOf sh_club_Table_L8 (LP_club_Table_L8 g g.N))] [] [] [] [(107, 0)] []
theorem ct_club_Table [Fuel] : NatTab (E_club_Table I_club_Table).C := ct_of (P := Tryz.prog) (T := T) (.cons ok_kit_IsKey (.cons ok_club_CheckEntrants (.cons ok_club_ranked .nil))) (by kernel_rfl)
noncomputable def cb_club_Table_L8 : Code := sub [1, 1, 1, 1, 0, 1, 0, 0] code_60
theorem s_club_Table_L8 (g : C_club_Table) (n : Nat) : StepOk (E_club_Table g) g.N cb_club_Table_L8 sh_club_Table_L8 (LP_club_Table_L8 g) n := by intro ps; unfold LP_club_Table_L8; split; exact .inr fun R K => (by kernel_rfl); exact .inl fun R K => rfl
theorem lf_club_Table_L8 [Fuel] : LoopFine (E_club_Table I_club_Table) NN cb_club_Table_L8 := fine_loop sh_club_Table_L8 (LP_club_Table_L8 I_club_Table) (by kernel_rfl) ct_club_Table (cuts0 (fun _ => rfl) (by kernel_rfl)) (fun ps R K => by unfold LP_club_Table_L8; split <;> (try unfold club_Table_L8) <;> rfl) (s_club_Table_L8 I_club_Table)
theorem sm_club_Table (g : C_club_Table) : Same (SS_club_Table (@club_Table_ g)) (abody (E_club_Table g) Tryz.f60 code_60 5 [] [.arr 103, .asis] g.N) := by intro args; unfold SS_club_Table; split; exact .inr fun R k => (by kernel_rfl); exact .inl fun R k => rfl
theorem ok_club_Table [Fuel] : Ok 60 (SS_club_Table (@club_Table _)) := okF_of std (.cons ok_kit_IsKey (.cons ok_club_CheckEntrants (.cons ok_club_ranked .nil))) ⟨rfl, rfl, by kernel_rfl, rfl, rfl, rfl⟩ (sm_club_Table I_club_Table) (cutsL (fun _ => rfl) (.cons lf_club_Table_L8 .nil) (by kernel_rfl)) Tryz.func60 (by kernel_rfl) (by kernel_rfl)
abbrev T_law_joinedClub : Type 1 := {R : Type} → (Bool → Option R) → Option R
structure C_law_joinedClub where
  N : Nat
  club_Table : T_club_Table
def law_joinedClub_ (g : C_law_joinedClub)  {R : Type} (k0 : Bool → Option R) : Option R :=
  (g.club_Table [(⟨[107, 49, 97, 98], [99], 5, []⟩ : G_Entrant)] [99] (fun r1 r2 => (bif (r2 == 0) then (bif ((r1.length : Int) == 1) then (inr r1 0 (at_ r1 0 fun x3 => k0 (x3.f_Points == 5))) else k0 false) else k0 false)))
noncomputable def I_law_joinedClub [Fuel] : C_law_joinedClub := ⟨NN, @club_Table _⟩
noncomputable def law_joinedClub [Fuel] : T_law_joinedClub := @law_joinedClub_ I_law_joinedClub
def SS_law_joinedClub (g : T_law_joinedClub) : Spec A := fun args => match args with | [] => fun k => g (fun z0 => k (.d (.bool z0)) []) | _ => fun _ => none
noncomputable def code_21 : Code := (Tryz.f21.body).getD .skip
noncomputable def E_law_joinedClub (g : C_law_joinedClub) : Env A := mkE [(60, SS_club_Table g.club_Table)] [(5, [0]), (6, [1])] [] [] [] [] [] [] [] []
theorem sm_law_joinedClub (g : C_law_joinedClub) : Same (SS_law_joinedClub (@law_joinedClub_ g)) (abody (E_law_joinedClub g) Tryz.f21 code_21 2 [] [.asis] g.N) := by intro args; unfold SS_law_joinedClub; split; exact .inr fun R k => (by kernel_rfl); exact .inl fun R k => rfl
theorem ok_law_joinedClub [Fuel] : Ok 21 (SS_law_joinedClub (@law_joinedClub _)) := okF_of std (.cons ok_club_Table .nil) ⟨rfl, rfl, by kernel_rfl, rfl, rfl, rfl⟩ (sm_law_joinedClub I_law_joinedClub) (cuts0 (fun _ => rfl) (by kernel_rfl)) Tryz.func21 (by kernel_rfl) (by kernel_rfl)
abbrev T_slices_Equal__string_n1 : Type 1 := List (List UInt8) → {R : Type} → (Bool → Option R) → Option R
def slices_Equal__string_n1_L4 (g : Nat) : Nat → List (List UInt8) → Int → Int → {R : Type} → Option R → Option R
  | 0, _, _, _, _, _ => none
  | n + 1, v2, v3, v4, _, e0 => (bif (decide (v4 < v3)) then (get_ v2 v4 fun x6 => none) else e0)
def slices_Equal__string_n1_ (g : Nat) (a1 : List (List UInt8)) {R : Type} (k0 : Bool → Option R) : Option R :=
  (bif ((a1.length : Int) != 0) then k0 false else (slices_Equal__string_n1_L4 g g a1 (a1.length : Int) 0 (k0 true)))
noncomputable def slices_Equal__string_n1 [Fuel] : T_slices_Equal__string_n1 := @slices_Equal__string_n1_ NN
def SS_slices_Equal__string_n1 (g : T_slices_Equal__string_n1) : Spec A := fun args => match args with | [.d (.sl 9 a1), .d .nsl] => fun k => g a1 (fun z0 => k (.d (.bool z0)) [.undef, .undef]) | _ => fun _ => none
def sh_slices_Equal__string_n1_L4 : SSt := mkSh 26 0 [(0, .sl 9), (1, .nsl), (12, .int .i64), (13, .int .i64)] []
def LP_slices_Equal__string_n1_L4 (g : Nat) (n : Nat) : LPT A := fun ps => match ps with | [.d (.sl 9 p1), .d (.int .i64 p2), .d (.int .i64 p3)] => fun K => slices_Equal__string_n1_L4 g n p1 p2 p3 (K (.exit 0) (mkSt 26 0 [] [])) | _ => fun _ => none
noncomputable def E_slices_Equal__string_n1 (g : Nat) : Env A := mkE [] [] [(4, ⟨[0, 1, 12, 13], [], [], []⟩)] [(4, ⟨[], [], [], []⟩)] [(4, pieceOf sh_slices_Equal__string_n1_L4 (LP_slices_Equal__string_n1_L4 g g))] [] [] [] [] []
theorem ct_slices_Equal__string_n1 [Fuel] : NatTab (E_slices_Equal__string_n1 NN).C := ct_of (P := Tryz.prog) (T := T) .nil (by kernel_rfl)
noncomputable def cb_slices_Equal__string_n1_L4 : Code := sub [1, 1, 0, 1, 0, 0] code_35
theorem s_slices_Equal__string_n1_L4 (g : Nat) (n : Nat) : StepOk (E_slices_Equal__string_n1 g) g cb_slices_Equal__string_n1_L4 sh_slices_Equal__string_n1_L4 (LP_slices_Equal__string_n1_L4 g) n := by intro ps; unfold LP_slices_Equal__string_n1_L4; split; exact .inr fun R K => (by kernel_rfl); exact .inl fun R K => rfl
theorem lf_slices_Equal__string_n1_L4 [Fuel] : LoopFine (E_slices_Equal__string_n1 NN) NN cb_slices_Equal__string_n1_L4 := fine_loop sh_slices_Equal__string_n1_L4 (LP_slices_Equal__string_n1_L4 NN) (by kernel_rfl) ct_slices_Equal__string_n1 (cuts0 (fun _ => rfl) (by kernel_rfl)) (fun ps R K => by unfold LP_slices_Equal__string_n1_L4; split <;> (try unfold slices_Equal__string_n1_L4) <;> rfl) (s_slices_Equal__string_n1_L4 NN)
theorem sm_slices_Equal__string_n1 (g : Nat) : Same (SS_slices_Equal__string_n1 (@slices_Equal__string_n1_ g)) (abody (E_slices_Equal__string_n1 g) Tryz.f35 code_35 0 [] [.asis] g) := by intro args; unfold SS_slices_Equal__string_n1; split; exact .inr fun R k => (by kernel_rfl); exact .inl fun R k => rfl
theorem ok_slices_Equal__string_n1 [Fuel] : Ok 35 (SS_slices_Equal__string_n1 (@slices_Equal__string_n1 _)) := okF_of std .nil ⟨rfl, rfl, by kernel_rfl, rfl, rfl, rfl⟩ (sm_slices_Equal__string_n1 NN) (cutsL (fun _ => rfl) (.cons lf_slices_Equal__string_n1_L4 .nil) (by kernel_rfl)) Tryz.func35 (by kernel_rfl) (by kernel_rfl)
abbrev T_law_MembersInside : Type 1 := List Int → {R : Type} → (Bool → Option R) → Option R
structure C_law_MembersInside where
  N : Nat
  Stream_Pick : T_Stream_Pick
  law_errs : T_law_errs
  law_joinedClub : T_law_joinedClub
  Stream_ClubList : T_Stream_ClubList
  Stream_Members : T_Stream_Members
  Stream_ACall : T_Stream_ACall
  club_Of : T_club_Of
  club_Outside : T_club_Outside
  Q_MembersFault : T_Q_MembersFault
  law_formFault : T_law_formFault
  law_dayFault : T_law_dayFault
  Q_ClubFor : T_Q_ClubFor
  Q_OutsideOf : T_Q_OutsideOf
  club_CheckClubs : T_club_CheckClubs
  Q_ClubsFault : T_Q_ClubsFault
  club_CheckMembers : T_club_CheckMembers
  slices_Equal__string : T_slices_Equal__string
  slices_Equal__string_n1 : T_slices_Equal__string_n1
def law_MembersInside_ (g : C_law_MembersInside) (a1 : List Int) {R : Type} (k0 : Bool → Option R) : Option R :=
  (g.Stream_ClubList (⟨a1, 0⟩ : G_Stream) (fun r2 r3 => (g.Stream_Members r3 r2 (fun r4 r5 => (g.Stream_ACall r5 (fun r6 r7 => (g.Stream_Pick r7 [0, 2, 4, 9, (-1), 4001] (fun r8 r9 => (g.club_Of r2 r4 r6 r8 (fun r10 r11 => (g.club_Outside r2 r4 r8 (fun r12 r13 => (g.Q_MembersFault r2 r4 (fun r14 => (g.law_formFault r6 (fun r15 => (g.law_dayFault r8 (fun r16 => (g.law_errs [r14, r15, r16] (fun r17 => (g.law_dayFault r8 (fun r18 => (g.law_errs [r14, r18] (fun r19 => (bif (r17 == 0) then (g.Q_ClubFor r2 r4 r6 r8 (fun r20 => (bif (r19 == 0) then (g.Q_OutsideOf r2 r4 r8 (fun r21 => (g.club_CheckClubs r2 (fun r22 => (g.Q_ClubsFault r2 (fun r23 => (bif (r22 == r23) then (g.club_CheckMembers r2 r4 (fun r24 => (bif (r24 == r14) then (bif (r11 == r17) then (bif (r10 == r20) then (bif (r13 == r19) then (g.slices_Equal__string r12 r21 (fun r25 => (bif r25 then (g.law_joinedClub (fun r26 => k0 r26)) else k0 false))) else k0 false) else k0 false) else k0 false) else k0 false))) else k0 false))))))) else (g.club_CheckClubs r2 (fun r27 => (g.Q_ClubsFault r2 (fun r28 => (bif (r27 == r28) then (g.club_CheckMembers r2 r4 (fun r29 => (bif (r29 == r14) then (bif (r11 == r17) then (bif (r10 == r20) then (bif (r13 == r19) then (g.slices_Equal__string_n1 r12 (fun r30 => (bif r30 then (g.law_joinedClub (fun r31 => k0 r31)) else k0 false))) else k0 false) else k0 false) else k0 false) else k0 false))) else k0 false)))))))) else (bif (r19 == 0) then (g.Q_OutsideOf r2 r4 r8 (fun r32 => (g.club_CheckClubs r2 (fun r33 => (g.Q_ClubsFault r2 (fun r34 => (bif (r33 == r34) then (g.club_CheckMembers r2 r4 (fun r35 => (bif (r35 == r14) then (bif (r11 == r17) then (bif (r10 == []) then (bif (r13 == r19) then (g.slices_Equal__string r12 r32 (fun r36 => (bif r36 then (g.law_joinedClub (fun r37 => k0 r37)) else k0 false))) else k0 false) else k0 false) else k0 false) else k0 false))) else k0 false))))))) else (g.club_CheckClubs r2 (fun r38 => (g.Q_ClubsFault r2 (fun r39 => (bif (r38 == r39) then (g.club_CheckMembers r2 r4 (fun r40 => (bif (r40 == r14) then (bif (r11 == r17) then (bif (r10 == []) then (bif (r13 == r19) then (g.slices_Equal__string_n1 r12 (fun r41 => (bif r41 then (g.law_joinedClub (fun r42 => k0 r42)) else k0 false))) else k0 false) else k0 false) else k0 false) else k0 false))) else k0 false)))))))))))))))))))))))))))))))
noncomputable def I_law_MembersInside [Fuel] : C_law_MembersInside := ⟨NN, @Stream_Pick _, @law_errs _, @law_joinedClub _, @Stream_ClubList _, @Stream_Members _, @Stream_ACall _, @club_Of _, @club_Outside _, @Q_MembersFault _, @law_formFault _, @law_dayFault _, @Q_ClubFor _, @Q_OutsideOf _, @club_CheckClubs _, @Q_ClubsFault _, @club_CheckMembers _, @slices_Equal__string _, @slices_Equal__string_n1 _⟩
noncomputable def law_MembersInside [Fuel] : T_law_MembersInside := @law_MembersInside_ I_law_MembersInside
def SS_law_MembersInside (g : T_law_MembersInside) : Spec A := fun args => match args with | [.d (.sl 3 a1)] => fun k => g a1 (fun z0 => k (.d (.bool z0)) [.undef]) | _ => fun _ => none
noncomputable def code_4 : Code := (Tryz.f4.body).getD .skip
noncomputable def E_law_MembersInside (g : C_law_MembersInside) : Env A := mkE [(9, SS_Stream_Pick g.Stream_Pick), (13, SS_law_errs g.law_errs), (21, SS_law_joinedClub g.law_joinedClub), (22, SS_Stream_ClubList g.Stream_ClubList), (23, SS_Stream_Members g.Stream_Members), (24, SS_Stream_ACall g.Stream_ACall), (25, SS_club_Of g.club_Of), (26, SS_club_Outside g.club_Outside), (27, SS_Q_MembersFault g.Q_MembersFault), (28, SS_law_formFault g.law_formFault), (29, SS_law_dayFault g.law_dayFault), (30, SS_Q_ClubFor g.Q_ClubFor), (31, SS_Q_OutsideOf g.Q_OutsideOf), (32, SS_club_CheckClubs g.club_CheckClubs), (33, SS_Q_ClubsFault g.Q_ClubsFault), (34, SS_club_CheckMembers g.club_CheckMembers), (35, orS p_slices_Equal__string (SS_slices_Equal__string g.slices_Equal__string) (SS_slices_Equal__string_n1 g.slices_Equal__string_n1))] [(19, [0]), (21, [1]), (24, [2]), (28, [3]), (42, [4]), (53, [5]), (58, [6]), (72, [7])] [] [] [] [] [] [] [] []
theorem sm_law_MembersInside (g : C_law_MembersInside) : Same (SS_law_MembersInside (@law_MembersInside_ g)) (abody (E_law_MembersInside g) Tryz.f4 code_4 8 [] [.asis] g.N) := by intro args; unfold SS_law_MembersInside; split; exact .inr fun R k => (by kernel_rfl); exact .inl fun R k => rfl
theorem ok_law_MembersInside [Fuel] : Ok 4 (SS_law_MembersInside (@law_MembersInside _)) := okF_of std (.cons ok_Stream_Pick (.cons ok_law_errs (.cons ok_law_joinedClub (.cons ok_Stream_ClubList (.cons ok_Stream_Members (.cons ok_Stream_ACall (.cons ok_club_Of (.cons ok_club_Outside (.cons ok_Q_MembersFault (.cons ok_law_formFault (.cons ok_law_dayFault (.cons ok_Q_ClubFor (.cons ok_Q_OutsideOf (.cons ok_club_CheckClubs (.cons ok_Q_ClubsFault (.cons ok_club_CheckMembers (.cons (ok_or p_slices_Equal__string ok_slices_Equal__string ok_slices_Equal__string_n1) .nil))))))))))))))))) ⟨rfl, rfl, by kernel_rfl, rfl, rfl, rfl⟩ (sm_law_MembersInside I_law_MembersInside) (cuts0 (fun _ => rfl) (by kernel_rfl)) Tryz.func4 (by kernel_rfl) (by kernel_rfl)
end Go.Am
