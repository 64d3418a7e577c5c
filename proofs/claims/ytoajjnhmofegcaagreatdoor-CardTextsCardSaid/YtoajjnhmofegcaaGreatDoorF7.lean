/- The functions of the program as Lean functions, each shown to be what the code computes, part 7. No condition: lemmas for the claim. -/
import Derived.Test.YtoajjnhmofegcaaGreatDoorF0
import Derived.Test.YtoajjnhmofegcaaGreatDoorFSh
import Derived.Test.YtoajjnhmofegcaaGreatDoorF1
import Derived.Test.YtoajjnhmofegcaaGreatDoorF2
import Derived.Test.YtoajjnhmofegcaaGreatDoorF3
import Derived.Test.YtoajjnhmofegcaaGreatDoorF4
import Derived.Test.YtoajjnhmofegcaaGreatDoorF5
import Derived.Test.YtoajjnhmofegcaaGreatDoorF6
set_option linter.unusedVariables false
set_option maxRecDepth 100000
namespace Go.Am
open Go Go.Proofs
abbrev T_club_ranked : Type 1 := List G_Place → {R : Type} → (List G_Place → Option R) → Option R
structure C_club_ranked where
 N : Nat
 slices_SortFunc__Place_club_ranked_1 : T_slices_SortFunc__Place_club_ranked_1
def club_ranked_L3 (g : C_club_ranked) : Nat → Int → Int → List G_Place → {R : Type} → (List G_Place → Option R) → Option R
 | 0, _, _, _, _, _ => none
 | n + 1, v3, v4, v5, _, e0 => (bif (decide (v4 < v3)) then (inr v5 v4 (at_ v5 v4 fun x11 => (bif (decide (v4 > 0)) then (inr (set_ v5 v4 (⟨(w64 (v4 + 1)), x11.f_Points, x11.f_Key⟩ : G_Place)) v4 (at_ (set_ v5 v4 (⟨(w64 (v4 + 1)), x11.f_Points, x11.f_Key⟩ : G_Place)) v4 fun x12 => (inr (set_ v5 v4 (⟨(w64 (v4 + 1)), x11.f_Points, x11.f_Key⟩ : G_Place)) (w64 (v4 - 1)) (at_ (set_ v5 v4 (⟨(w64 (v4 + 1)), x11.f_Points, x11.f_Key⟩ : G_Place)) (w64 (v4 - 1)) fun x13 => (bif (x12.f_Points == x13.f_Points) then (inr (set_ v5 v4 (⟨(w64 (v4 + 1)), x11.f_Points, x11.f_Key⟩ : G_Place)) (w64 (v4 - 1)) (at_ (set_ v5 v4 (⟨(w64 (v4 + 1)), x11.f_Points, x11.f_Key⟩ : G_Place)) (w64 (v4 - 1)) fun x14 => (inr (set_ v5 v4 (⟨(w64 (v4 + 1)), x11.f_Points, x11.f_Key⟩ : G_Place)) v4 (at_ (set_ v5 v4 (⟨(w64 (v4 + 1)), x11.f_Points, x11.f_Key⟩ : G_Place)) v4 fun x15 => club_ranked_L3 g n v3 (w64 (v4 + 1)) (set_ (set_ v5 v4 (⟨(w64 (v4 + 1)), x11.f_Points, x11.f_Key⟩ : G_Place)) v4 (⟨x14.f_Rank, x15.f_Points, x15.f_Key⟩ : G_Place)) e0)))) else club_ranked_L3 g n v3 (w64 (v4 + 1)) (set_ v5 v4 (⟨(w64 (v4 + 1)), x11.f_Points, x11.f_Key⟩ : G_Place)) e0))))) else club_ranked_L3 g n v3 (w64 (v4 + 1)) (set_ v5 v4 (⟨(w64 (v4 + 1)), x11.f_Points, x11.f_Key⟩ : G_Place)) e0))) else e0 v5)
def club_ranked_ (g : C_club_ranked) (a1 : List G_Place) {R : Type} (k0 : List G_Place → Option R) : Option R :=
 (g.slices_SortFunc__Place_club_ranked_1 a1 (fun r2 => (club_ranked_L3 g g.N (r2.length : Int) 0 r2 (fun e16 => k0 e16))))
noncomputable def I_club_ranked [Fuel] : C_club_ranked := ⟨NN, @slices_SortFunc__Place_club_ranked_1 _⟩
noncomputable def club_ranked [Fuel] : T_club_ranked := @club_ranked_ I_club_ranked
def SS_club_ranked (g : T_club_ranked) : Spec A := fun args => match args with | [.arr 122 a1] => fun k => g a1 (fun z0 => k (.arr 122 z0) [.undef]) | _ => fun _ => none
def sh_club_ranked_L3 : SSt := mkSh 45 1 [(0, .own 122 0), (7, .int .i64), (8, .int .i64)] [(0, .row 122)]
def LP_club_ranked_L3 (g : C_club_ranked) (n : Nat) : LPT A := fun ps => match ps with | [.d (.int .i64 p1), .d (.int .i64 p2), .d (.sl 122 p3)] => fun K => club_ranked_L3 g n p1 p2 p3 (fun z0 => K (.exit 0) (mkSt 45 1 [(0, .own 122 0)] [(0, some (.row 122 z0))])) | _ => fun _ => none
noncomputable def code_146 : Code := (Tryz.f146.body).getD .skip
noncomputable def E_club_ranked (g : C_club_ranked) : Env A := mkE [(190, SS_slices_SortFunc__Place_club_ranked_1 g.slices_SortFunc__Place_club_ranked_1)] [] [(3, ⟨[0, 7, 8], [], [0], [], [], [], []⟩)] [(3, ⟨[0], [], [0], [], [], [], []⟩)] [(3, pieceOf sh_club_ranked_L3 (LP_club_ranked_L3 g g.N))] [] [] [] [(190, 0)] []
theorem ct_club_ranked [Fuel] : NatTab (E_club_ranked I_club_ranked).C := ct_of (P := Tryz.prog) (T := T) (.cons ok_slices_SortFunc__Place_club_ranked_1 .nil) (by kernel_rfl)
noncomputable def cb_club_ranked_L3 : Code := sub [1, 1, 0, 1, 0, 0] code_146
theorem s_club_ranked_L3 (g : C_club_ranked) (n : Nat) : StepOk (E_club_ranked g) g.N cb_club_ranked_L3 sh_club_ranked_L3 (LP_club_ranked_L3 g) n := by intro ps; unfold LP_club_ranked_L3; split; exact .inr fun R K => (by kernel_rfl); exact .inl fun R K => rfl
theorem lf_club_ranked_L3 [Fuel] : LoopFine (E_club_ranked I_club_ranked) NN cb_club_ranked_L3 := fine_loop sh_club_ranked_L3 (LP_club_ranked_L3 I_club_ranked) (by kernel_rfl) ct_club_ranked (cuts0 (fun _ => rfl) (by kernel_rfl)) (fun ps R K => by unfold LP_club_ranked_L3; split <;> (try unfold club_ranked_L3) <;> rfl) (s_club_ranked_L3 I_club_ranked)
theorem sm_club_ranked (g : C_club_ranked) : Same (SS_club_ranked (@club_ranked_ g)) (abody (E_club_ranked g) Tryz.f146 code_146 1 [0] [.arr 122] g.N) := by intro args; unfold SS_club_ranked; split; exact .inr fun R k => (by kernel_rfl); exact .inl fun R k => rfl
theorem ok_club_ranked [Fuel] : Ok 146 (SS_club_ranked (@club_ranked _)) := okF_of std (.cons ok_slices_SortFunc__Place_club_ranked_1 .nil) ⟨rfl, rfl, by kernel_rfl, rfl, rfl, rfl⟩ (sm_club_ranked I_club_ranked) (cutsL (fun _ => rfl) (.cons lf_club_ranked_L3 .nil) (by kernel_rfl)) Tryz.func146 (by kernel_rfl) (by kernel_rfl)
abbrev T_club_Table : Type 1 := List G_Entrant → List UInt8 → {R : Type} → (List G_Place → Int → Option R) → Option R
structure C_club_Table where
 N : Nat
 kit_IsKey : T_kit_IsKey
 club_CheckEntrants : T_club_CheckEntrants
 club_ranked : T_club_ranked
def club_Table_L8 (g : C_club_Table) : Nat → List UInt8 → List G_Entrant → Int → Int → List G_Place → {R : Type} → (List G_Place → Option R) → Option R
 | 0, _, _, _, _, _, _, _ => none
 | n + 1, v5, v6, v7, v8, v9, _, e0 => (bif (decide (v8 < v7)) then (get_ v6 v8 fun x11 => (bif (x11.f_Category == v5) then (bif (decide ((v9.length + [(⟨0, x11.f_Points, x11.f_Call⟩ : G_Place)].length) * 32 ≤ roomBytes')) then club_Table_L8 g n v5 v6 v7 (w64 (v8 + 1)) (v9 ++ [(⟨0, x11.f_Points, x11.f_Call⟩ : G_Place)]) e0 else none) else club_Table_L8 g n v5 v6 v7 (w64 (v8 + 1)) v9 e0)) else e0 v9)
def club_Table_ (g : C_club_Table) (a1 : List G_Entrant) (a2 : List UInt8) {R : Type} (k0 : List G_Place → Int → Option R) : Option R :=
 (g.club_CheckEntrants a1 (fun r3 => (bif (r3 != 0) then k0 [] r3 else (g.kit_IsKey a2 (fun r4 => (bif (!r4) then k0 [] 5 else (club_Table_L8 g g.N a2 a1 (a1.length : Int) 0 [] (fun e12 => (g.club_ranked e12 (fun r13 => k0 r13 0))))))))))
noncomputable def I_club_Table [Fuel] : C_club_Table := ⟨NN, @kit_IsKey _, @club_CheckEntrants _, @club_ranked _⟩
noncomputable def club_Table [Fuel] : T_club_Table := @club_Table_ I_club_Table
def SS_club_Table (g : T_club_Table) : Spec A := fun args => match args with | [.d (.sl 119 a1), .d (.str a2)] => fun k => g a1 a2 (fun z0 z1 => k (.tup [.arr 122 z0, .d (.int .i64 z1)]) [.undef, .undef]) | _ => fun _ => none
def sh_club_Table_L8 : SSt := mkSh 39 5 [(1, .str), (7, .own 122 0), (18, .sl 119), (19, .int .i64), (20, .int .i64)] [(0, .row 122)]
def LP_club_Table_L8 (g : C_club_Table) (n : Nat) : LPT A := fun ps => match ps with | [.d (.str p1), .d (.sl 119 p2), .d (.int .i64 p3), .d (.int .i64 p4), .d (.sl 122 p5)] => fun K => club_Table_L8 g n p1 p2 p3 p4 p5 (fun z0 => K (.exit 0) (mkSt 39 5 [(7, .own 122 0)] [(0, some (.row 122 z0))])) | _ => fun _ => none
noncomputable def code_93 : Code := (Tryz.f93.body).getD .skip
noncomputable def E_club_Table (g : C_club_Table) : Env A := mkE [(137, SS_kit_IsKey g.kit_IsKey), (145, SS_club_CheckEntrants g.club_CheckEntrants), (146, SS_club_ranked g.club_ranked)] [(9, [1]), (34, [2]), (35, [3]), (38, [4])] [(8, ⟨[1, 7, 18, 19, 20], [(7, 122, 0)], [], [], [], [], []⟩)] [(8, ⟨[7], [], [0], [], [], [], []⟩)] [(8, pieceOf sh_club_Table_L8 (LP_club_Table_L8 g g.N))] [] [] [] [(146, 0)] []
theorem ct_club_Table [Fuel] : NatTab (E_club_Table I_club_Table).C := ct_of (P := Tryz.prog) (T := T) (.cons ok_kit_IsKey (.cons ok_club_CheckEntrants (.cons ok_club_ranked .nil))) (by kernel_rfl)
noncomputable def cb_club_Table_L8 : Code := sub [1, 1, 1, 1, 0, 1, 0, 0] code_93
theorem s_club_Table_L8 (g : C_club_Table) (n : Nat) : StepOk (E_club_Table g) g.N cb_club_Table_L8 sh_club_Table_L8 (LP_club_Table_L8 g) n := by intro ps; unfold LP_club_Table_L8; split; exact .inr fun R K => (by kernel_rfl); exact .inl fun R K => rfl
theorem lf_club_Table_L8 [Fuel] : LoopFine (E_club_Table I_club_Table) NN cb_club_Table_L8 := fine_loop sh_club_Table_L8 (LP_club_Table_L8 I_club_Table) (by kernel_rfl) ct_club_Table (cuts0 (fun _ => rfl) (by kernel_rfl)) (fun ps R K => by unfold LP_club_Table_L8; split <;> (try unfold club_Table_L8) <;> rfl) (s_club_Table_L8 I_club_Table)
theorem sm_club_Table (g : C_club_Table) : Same (SS_club_Table (@club_Table_ g)) (abody (E_club_Table g) Tryz.f93 code_93 5 [] [.arr 122, .asis] g.N) := by intro args; unfold SS_club_Table; split; exact .inr fun R k => (by kernel_rfl); exact .inl fun R k => rfl
theorem ok_club_Table [Fuel] : Ok 93 (SS_club_Table (@club_Table _)) := okF_of std (.cons ok_kit_IsKey (.cons ok_club_CheckEntrants (.cons ok_club_ranked .nil))) ⟨rfl, rfl, by kernel_rfl, rfl, rfl, rfl⟩ (sm_club_Table I_club_Table) (cutsL (fun _ => rfl) (.cons lf_club_Table_L8 .nil) (by kernel_rfl)) Tryz.func93 (by kernel_rfl) (by kernel_rfl)
abbrev T_law_joinedClub : Type 1 := {R : Type} → (Bool → Option R) → Option R
structure C_law_joinedClub where
 N : Nat
 club_Table : T_club_Table
def law_joinedClub_ (g : C_law_joinedClub)  {R : Type} (k0 : Bool → Option R) : Option R :=
 (g.club_Table [(⟨[107, 49, 97, 98], [99], 5, []⟩ : G_Entrant)] [99] (fun r1 r2 => (bif (r2 == 0) then (bif ((r1.length : Int) == 1) then (inr r1 0 (at_ r1 0 fun x3 => k0 (x3.f_Points == 5))) else k0 false) else k0 false)))
noncomputable def I_law_joinedClub [Fuel] : C_law_joinedClub := ⟨NN, @club_Table _⟩
noncomputable def law_joinedClub [Fuel] : T_law_joinedClub := @law_joinedClub_ I_law_joinedClub
def SS_law_joinedClub (g : T_law_joinedClub) : Spec A := fun args => match args with | [] => fun k => g (fun z0 => k (.d (.bool z0)) []) | _ => fun _ => none
noncomputable def code_25 : Code := (Tryz.f25.body).getD .skip
noncomputable def E_law_joinedClub (g : C_law_joinedClub) : Env A := mkE [(93, SS_club_Table g.club_Table)] [(5, [0]), (6, [1])] [] [] [] [] [] [] [] []
theorem sm_law_joinedClub (g : C_law_joinedClub) : Same (SS_law_joinedClub (@law_joinedClub_ g)) (abody (E_law_joinedClub g) Tryz.f25 code_25 2 [] [.asis] g.N) := by intro args; unfold SS_law_joinedClub; split; exact .inr fun R k => (by kernel_rfl); exact .inl fun R k => rfl
theorem ok_law_joinedClub [Fuel] : Ok 25 (SS_law_joinedClub (@law_joinedClub _)) := okF_of std (.cons ok_club_Table .nil) ⟨rfl, rfl, by kernel_rfl, rfl, rfl, rfl⟩ (sm_law_joinedClub I_law_joinedClub) (cuts0 (fun _ => rfl) (by kernel_rfl)) Tryz.func25 (by kernel_rfl) (by kernel_rfl)
abbrev T_law_CardTexts : Type 1 := List Int → {R : Type} → (Bool → Option R) → Option R
structure C_law_CardTexts where
 N : Nat
 Stream_Range : T_Stream_Range
 Stream_Cards : T_Stream_Cards
 Stream_CardText : T_Stream_CardText
 club_Text : T_club_Text
 Q_CardsFault : T_Q_CardsFault
 Q_CardLines : T_Q_CardLines
 club_Read : T_club_Read
 Q_CardsRead : T_Q_CardsRead
 slices_Equal__Card : T_slices_Equal__Card
 law_joinedClub : T_law_joinedClub
def law_CardTexts_ (g : C_law_CardTexts) (a1 : List Int) {R : Type} (k0 : Bool → Option R) : Option R :=
 (g.Stream_Range (⟨a1, 0⟩ : G_Stream) 0 6 (fun r2 r3 => (g.Stream_Cards r3 r2 (fun r4 r5 => (g.Stream_CardText r5 (fun r6 r7 => (g.club_Text r4 (fun r8 r9 => (g.Q_CardsFault r4 (fun r10 => (bif (r10 == 0) then (g.Q_CardLines r4 (fun r11 => (g.club_Read r6 (fun r12 r13 r14 => (g.Q_CardsRead r6 (fun r15 r16 r17 => (bif (r9 == r10) then (bif (r8 == r11) then (g.slices_Equal__Card r12 r15 (fun r18 => (bif r18 then (bif (r13 == r16) then (bif (r14 == r17) then (g.law_joinedClub (fun r19 => k0 r19)) else k0 false) else k0 false) else k0 false))) else k0 false) else k0 false))))))) else (g.club_Read r6 (fun r20 r21 r22 => (g.Q_CardsRead r6 (fun r23 r24 r25 => (bif (r9 == r10) then (bif (r8 == []) then (g.slices_Equal__Card r20 r23 (fun r26 => (bif r26 then (bif (r21 == r24) then (bif (r22 == r25) then (g.law_joinedClub (fun r27 => k0 r27)) else k0 false) else k0 false) else k0 false))) else k0 false) else k0 false))))))))))))))))
noncomputable def I_law_CardTexts [Fuel] : C_law_CardTexts := ⟨NN, @Stream_Range _, @Stream_Cards _, @Stream_CardText _, @club_Text _, @Q_CardsFault _, @Q_CardLines _, @club_Read _, @Q_CardsRead _, @slices_Equal__Card _, @law_joinedClub _⟩
noncomputable def law_CardTexts [Fuel] : T_law_CardTexts := @law_CardTexts_ I_law_CardTexts
def SS_law_CardTexts (g : T_law_CardTexts) : Spec A := fun args => match args with | [.d (.sl 3 a1)] => fun k => g a1 (fun z0 => k (.d (.bool z0)) [.undef]) | _ => fun _ => none
noncomputable def code_4 : Code := (Tryz.f4.body).getD .skip
noncomputable def E_law_CardTexts (g : C_law_CardTexts) : Env A := mkE [(8, SS_Stream_Range g.Stream_Range), (17, SS_Stream_Cards g.Stream_Cards), (18, SS_Stream_CardText g.Stream_CardText), (19, SS_club_Text g.club_Text), (20, SS_Q_CardsFault g.Q_CardsFault), (21, SS_Q_CardLines g.Q_CardLines), (22, SS_club_Read g.club_Read), (23, SS_Q_CardsRead g.Q_CardsRead), (24, SS_slices_Equal__Card g.slices_Equal__Card), (25, SS_law_joinedClub g.law_joinedClub)] [(18, [0]), (22, [1]), (38, [2]), (44, [3])] [] [] [] [] [] [] [] []
theorem sm_law_CardTexts (g : C_law_CardTexts) : Same (SS_law_CardTexts (@law_CardTexts_ g)) (abody (E_law_CardTexts g) Tryz.f4 code_4 4 [] [.asis] g.N) := by intro args; unfold SS_law_CardTexts; split; exact .inr fun R k => (by kernel_rfl); exact .inl fun R k => rfl
theorem ok_law_CardTexts [Fuel] : Ok 4 (SS_law_CardTexts (@law_CardTexts _)) := okF_of std (.cons ok_Stream_Range (.cons ok_Stream_Cards (.cons ok_Stream_CardText (.cons ok_club_Text (.cons ok_Q_CardsFault (.cons ok_Q_CardLines (.cons ok_club_Read (.cons ok_Q_CardsRead (.cons ok_slices_Equal__Card (.cons ok_law_joinedClub .nil)))))))))) ⟨rfl, rfl, by kernel_rfl, rfl, rfl, rfl⟩ (sm_law_CardTexts I_law_CardTexts) (cuts0 (fun _ => rfl) (by kernel_rfl)) Tryz.func4 (by kernel_rfl) (by kernel_rfl)
end Go.Am
