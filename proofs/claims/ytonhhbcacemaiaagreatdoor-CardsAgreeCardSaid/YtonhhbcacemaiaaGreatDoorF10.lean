/- The functions of the program as Lean functions, each shown to be what the code computes, part 10. No condition: lemmas for the claim. -/
import Derived.Test.YtonhhbcacemaiaaGreatDoorF0
import Derived.Test.YtonhhbcacemaiaaGreatDoorFSh
import Derived.Test.YtonhhbcacemaiaaGreatDoorF1
import Derived.Test.YtonhhbcacemaiaaGreatDoorF3
import Derived.Test.YtonhhbcacemaiaaGreatDoorF4
import Derived.Test.YtonhhbcacemaiaaGreatDoorF5
import Derived.Test.YtonhhbcacemaiaaGreatDoorF9
set_option linter.unusedVariables false
set_option maxRecDepth 100000
namespace Go.Am
open Go Go.Proofs
abbrev T_keep_CardsAgree : Type 1 := List Int → {R : Type} → (Bool → Option R) → Option R
structure C_keep_CardsAgree where
 N : Nat
 Stream_Range : T_Stream_Range
 keep_ready : T_keep_ready
 Stream_RightCards : T_Stream_RightCards
 keep_parts__Card : T_keep_parts__Card
 club_MergeCards : T_club_MergeCards
 club_Confirmed : T_club_Confirmed
 club_Owed : T_club_Owed
 keep_errs : T_keep_errs
 slices_Equal__Card : T_slices_Equal__Card
 slices_ContainsFunc__Card_keep_CardsAgree_1 : T_slices_ContainsFunc__Card_keep_CardsAgree_1
def keep_CardsAgree_L12 (g : C_keep_CardsAgree) : Nat → Int → Int → List G_Card → List G_Pair → {R : Type} → (Bool → Option R) → Option R → Option R
 | 0, _, _, _, _, _, _, _ => none
 | n + 1, v27, v28, v29, v30, _, e0, e1 => (bif (decide (v28 < v27)) then (inr v30 v28 (at_ v30 v28 fun x34 => (g.slices_ContainsFunc__Card_keep_CardsAgree_1 v29 x34 (fun r35 r36 => (bif (!r35) then e0 false else keep_CardsAgree_L12 g n v27 (w64 (v28 + 1)) v29 v30 e0 e1))))) else e1)
def keep_CardsAgree_ (g : C_keep_CardsAgree) (a1 : List Int) {R : Type} (k0 : Bool → Option R) : Option R :=
 (g.Stream_Range (⟨a1, 0⟩ : G_Stream) 0 14 (fun r2 r3 => (g.Stream_RightCards r3 r2 (fun r4 r5 => (g.Stream_Range r5 0 100 (fun r6 r7 => (g.keep_parts__Card r7 r4 (fun r8 r9 r10 => (g.club_MergeCards r8 r9 (fun r11 r12 => (g.club_MergeCards r9 r8 (fun r13 r14 => (g.club_Confirmed r4 r6 (fun r15 r16 => (g.Stream_Range r10 0 50 (fun r17 r18 => (g.club_Confirmed r4 (w64 (r6 + r17)) (fun r19 r20 => (g.club_Owed r4 r6 (fun r21 r22 => (g.keep_errs [r12, r14, r16, r20, r22] (fun r23 => (bif (r23 != 0) then k0 false else (g.slices_Equal__Card r11 r4 (fun r24 => (bif (!r24) then k0 false else (g.slices_Equal__Card r13 r4 (fun r25 => (bif (!r25) then k0 false else (bif (decide ((r15.length : Int) > (r19.length : Int))) then k0 false else (bif (decide (0 ≤ (r15.length : Int)) && decide ((r15.length : Int) ≤ (r19.length : Int))) then (g.slices_Equal__Card r15 (r19.take ((r15.length : Int) : Int).toNat) (fun r26 => (bif (!r26) then k0 false else (bif (decide ((r21.length : Int) > (r15.length : Int))) then k0 false else (keep_CardsAgree_L12 g g.N (r21.length : Int) 0 r15 r21 (fun e37 => k0 e37) (g.keep_ready (fun r38 => k0 r38))))))) else none)))))))))))))))))))))))))))))))
noncomputable def I_keep_CardsAgree [Fuel] : C_keep_CardsAgree := ⟨NN, @Stream_Range _, @keep_ready _, @Stream_RightCards _, @keep_parts__Card _, @club_MergeCards _, @club_Confirmed _, @club_Owed _, @keep_errs _, @slices_Equal__Card _, @slices_ContainsFunc__Card_keep_CardsAgree_1 _⟩
noncomputable def keep_CardsAgree [Fuel] : T_keep_CardsAgree := @keep_CardsAgree_ I_keep_CardsAgree
def SS_keep_CardsAgree (g : T_keep_CardsAgree) : Spec A := fun args => match args with | [.d (.sl 3 a1)] => fun k => g a1 (fun z0 => k (.d (.bool z0)) [.undef]) | _ => fun _ => none
def sh_keep_CardsAgree_L12 : SSt := mkSh 123 11 [(12, .own 46 6), (111, .own 56 8), (112, .int .i64), (113, .int .i64)] [(6, .row 46), (8, .row 56)]
def LP_keep_CardsAgree_L12 (g : C_keep_CardsAgree) (n : Nat) : LPT A := fun ps => match ps with | [.d (.int .i64 p1), .d (.int .i64 p2), .d (.sl 46 p3), .d (.sl 56 p4)] => fun K => keep_CardsAgree_L12 g n p1 p2 p3 p4 (fun z0 => K .ret (mkSt 123 11 [(2, .d (.bool z0))] [])) (K (.exit 0) (mkSt 123 11 [] [])) | _ => fun _ => none
noncomputable def code_4 : Code := (Tryz.f4.body).getD .skip
noncomputable def E_keep_CardsAgree (g : C_keep_CardsAgree) : Env A := mkE [(8, SS_Stream_Range g.Stream_Range), (11, SS_keep_ready g.keep_ready), (13, SS_Stream_RightCards g.Stream_RightCards), (14, SS_keep_parts__Card g.keep_parts__Card), (15, SS_club_MergeCards g.club_MergeCards), (16, SS_club_Confirmed g.club_Confirmed), (17, SS_club_Owed g.club_Owed), (18, SS_keep_errs g.keep_errs), (19, SS_slices_Equal__Card g.slices_Equal__Card), (20, SS_slices_ContainsFunc__Card_keep_CardsAgree_1 g.slices_ContainsFunc__Card_keep_CardsAgree_1)] [(19, [10]), (22, [0]), (26, [1]), (32, [2, 3]), (38, [4]), (44, [5]), (50, [6]), (59, [7]), (65, [8]), (73, [9])] [(12, ⟨[12, 111, 112, 113], [], [6, 8], []⟩)] [(12, ⟨[2], [], [], []⟩)] [(12, pieceOf sh_keep_CardsAgree_L12 (LP_keep_CardsAgree_L12 g g.N))] [] [] [] [] []
theorem ct_keep_CardsAgree [Fuel] : NatTab (E_keep_CardsAgree I_keep_CardsAgree).C := ct_of (P := Tryz.prog) (T := T) (.cons ok_Stream_Range (.cons ok_keep_ready (.cons ok_Stream_RightCards (.cons ok_keep_parts__Card (.cons ok_club_MergeCards (.cons ok_club_Confirmed (.cons ok_club_Owed (.cons ok_keep_errs (.cons ok_slices_Equal__Card (.cons ok_slices_ContainsFunc__Card_keep_CardsAgree_1 .nil)))))))))) (by kernel_rfl)
noncomputable def cb_keep_CardsAgree_L12 : Code := sub [1, 1, 1, 1, 1, 1, 1, 1, 1, 1, 0, 1, 0, 0] code_4
theorem s_keep_CardsAgree_L12 (g : C_keep_CardsAgree) (n : Nat) : StepOk (E_keep_CardsAgree g) g.N cb_keep_CardsAgree_L12 sh_keep_CardsAgree_L12 (LP_keep_CardsAgree_L12 g) n := by intro ps; unfold LP_keep_CardsAgree_L12; split; exact .inr fun R K => (by kernel_rfl); exact .inl fun R K => rfl
theorem lf_keep_CardsAgree_L12 [Fuel] : LoopFine (E_keep_CardsAgree I_keep_CardsAgree) NN cb_keep_CardsAgree_L12 := fine_loop sh_keep_CardsAgree_L12 (LP_keep_CardsAgree_L12 I_keep_CardsAgree) (by kernel_rfl) ct_keep_CardsAgree (cuts0 (fun _ => rfl) (by kernel_rfl)) (fun ps R K => by unfold LP_keep_CardsAgree_L12; split <;> (try unfold keep_CardsAgree_L12) <;> rfl) (s_keep_CardsAgree_L12 I_keep_CardsAgree)
theorem sm_keep_CardsAgree (g : C_keep_CardsAgree) : Same (SS_keep_CardsAgree (@keep_CardsAgree_ g)) (abody (E_keep_CardsAgree g) Tryz.f4 code_4 11 [] [.asis] g.N) := by intro args; unfold SS_keep_CardsAgree; split; exact .inr fun R k => (by kernel_rfl); exact .inl fun R k => rfl
theorem ok_keep_CardsAgree [Fuel] : Ok 4 (SS_keep_CardsAgree (@keep_CardsAgree _)) := okF_of std (.cons ok_Stream_Range (.cons ok_keep_ready (.cons ok_Stream_RightCards (.cons ok_keep_parts__Card (.cons ok_club_MergeCards (.cons ok_club_Confirmed (.cons ok_club_Owed (.cons ok_keep_errs (.cons ok_slices_Equal__Card (.cons ok_slices_ContainsFunc__Card_keep_CardsAgree_1 .nil)))))))))) ⟨rfl, rfl, by kernel_rfl, rfl, rfl, rfl⟩ (sm_keep_CardsAgree I_keep_CardsAgree) (cutsL (fun _ => rfl) (.cons lf_keep_CardsAgree_L12 .nil) (by kernel_rfl)) Tryz.func4 (by kernel_rfl) (by kernel_rfl)
end Go.Am
