/- The functions of the program as Lean functions, each shown to be what the code computes, part 9. No condition: lemmas for the claim. -/
import Derived.Test.YtancmpgebeiiaaaGreatDoorF0
import Derived.Test.YtancmpgebeiiaaaGreatDoorFSh
import Derived.Test.YtancmpgebeiiaaaGreatDoorF1
import Derived.Test.YtancmpgebeiiaaaGreatDoorF3
import Derived.Test.YtancmpgebeiiaaaGreatDoorF5
import Derived.Test.YtancmpgebeiiaaaGreatDoorF8
set_option linter.unusedVariables false
set_option maxRecDepth 100000
namespace Go.Am
open Go Go.Proofs
abbrev T_keep_PausesAreEmpty : Type 1 := List Int → {R : Type} → (Bool → Option R) → Option R
structure C_keep_PausesAreEmpty where
 N : Nat
 Stream_RightContacts : T_Stream_RightContacts
 Stream_Range : T_Stream_Range
 log_Pauses : T_log_Pauses
 log_Hours : T_log_Hours
 keep_errs : T_keep_errs
 slices_ContainsFunc__Window_keep_PausesAreEmpty_1 : T_slices_ContainsFunc__Window_keep_PausesAreEmpty_1
 keep_ready : T_keep_ready
def keep_PausesAreEmpty_L11 (g : C_keep_PausesAreEmpty) : Nat → Int → Int → Int → Int → List G_Contact → G_Window → List G_Window → List Int → {R : Type} → (Bool → Int → Int → List Int → Option R) → (Int → Int → List Int → Option R) → Option R
 | 0, _, _, _, _, _, _, _, _, _, _, _ => none
 | n + 1, v17, v18, v19, v20, v21, v22, v23, v24, _, e0, e1 => (bif (decide (v20 < v19)) then (inr v21 v20 (at_ v21 v20 fun x32 => (bif (decide (v22.f_From ≤ x32.f_At)) then (bif (decide (x32.f_At < v22.f_To)) then (g.slices_ContainsFunc__Window_keep_PausesAreEmpty_1 v23 x32 (fun r33 r34 => (bif r33 then e0 false (w64 (v17 + 1)) v18 v24 else keep_PausesAreEmpty_L11 g n (w64 (v17 + 1)) v18 v19 (w64 (v20 + 1)) v21 v22 v23 v24 e0 e1))) else (g.slices_ContainsFunc__Window_keep_PausesAreEmpty_1 v23 x32 (fun r35 r36 => (bif r35 then e0 false v17 v18 v24 else keep_PausesAreEmpty_L11 g n v17 v18 v19 (w64 (v20 + 1)) v21 v22 v23 v24 e0 e1)))) else (g.slices_ContainsFunc__Window_keep_PausesAreEmpty_1 v23 x32 (fun r37 r38 => (bif r37 then e0 false v17 v18 v24 else keep_PausesAreEmpty_L11 g n v17 v18 v19 (w64 (v20 + 1)) v21 v22 v23 v24 e0 e1)))))) else e1 v17 v18 v24)
def keep_PausesAreEmpty_L19 (g : C_keep_PausesAreEmpty) : Nat → Int → Int → Int → Int → List Int → {R : Type} → (Int → Int → Option R) → Option R
 | 0, _, _, _, _, _, _, _ => none
 | n + 1, v46, v47, v48, v49, v50, _, e0 => (bif (decide (v49 < v48)) then (inr v50 v49 (at_ v50 v49 fun x52 => keep_PausesAreEmpty_L19 g n v46 (w64 (v47 + x52)) v48 (w64 (v49 + 1)) v50 e0)) else e0 v46 v47)
def keep_PausesAreEmpty_ (g : C_keep_PausesAreEmpty) (a1 : List Int) {R : Type} (k0 : Bool → Option R) : Option R :=
 (g.Stream_Range (⟨a1, 0⟩ : G_Stream) 0 12 (fun r2 r3 => (g.Stream_RightContacts r3 r2 (fun r4 r5 => (g.Stream_Range r5 0 100000 (fun r6 r7 => (g.Stream_Range r7 0 9000000 (fun r8 r9 => (g.Stream_Range r9 1 50000 (fun r10 r11 => (g.log_Pauses r4 (⟨r6, (w64 (r6 + r8))⟩ : G_Window) r10 (fun r12 r13 => (g.log_Hours r4 (⟨r6, (w64 (r6 + r8))⟩ : G_Window) (fun r14 r15 => (g.keep_errs [r13, r15] (fun r16 => (bif (r16 != 0) then k0 false else (keep_PausesAreEmpty_L11 g g.N 0 0 (r4.length : Int) 0 r4 (⟨r6, (w64 (r6 + r8))⟩ : G_Window) r12 r14 (fun e39 e40 e41 e42 => k0 e39) (fun e43 e44 e45 => (keep_PausesAreEmpty_L19 g g.N e43 e44 (e45.length : Int) 0 e45 (fun e53 e54 => (bif (e53 == e54) then (g.keep_ready (fun r55 => k0 r55)) else k0 false))))))))))))))))))))))
noncomputable def I_keep_PausesAreEmpty [Fuel] : C_keep_PausesAreEmpty := ⟨NN, @Stream_RightContacts _, @Stream_Range _, @log_Pauses _, @log_Hours _, @keep_errs _, @slices_ContainsFunc__Window_keep_PausesAreEmpty_1 _, @keep_ready _⟩
noncomputable def keep_PausesAreEmpty [Fuel] : T_keep_PausesAreEmpty := @keep_PausesAreEmpty_ I_keep_PausesAreEmpty
def SS_keep_PausesAreEmpty (g : T_keep_PausesAreEmpty) : Spec A := fun args => match args with | [.d (.sl 3 a1)] => fun k => g a1 (fun z0 => k (.d (.bool z0)) [.undef]) | _ => fun _ => none
def sh_keep_PausesAreEmpty_L11 : SSt := mkSh 91 7 [(5, .ptr 2 0), (6, .own 30 3), (8, .own 3 4), (10, .int .i64), (11, .int .i64), (51, .own 39 1), (52, .int .i64), (53, .int .i64)] [(1, .row 39), (2, .box [.int .i64, .int .i64]), (3, .row 30), (4, .row 3)]
def LP_keep_PausesAreEmpty_L11 (g : C_keep_PausesAreEmpty) (n : Nat) : LPT A := fun ps => match ps with | [.d (.int .i64 p1), .d (.int .i64 p2), .d (.int .i64 p3), .d (.int .i64 p4), .d (.sl 39 p5), .d (.int .i64 p6), .d (.int .i64 p7), .d (.sl 30 p8), .d (.sl 3 p9)] => fun K => keep_PausesAreEmpty_L11 g n p1 p2 p3 p4 p5 ⟨p6, p7⟩ p8 p9 (fun z0 z1 z2 z3 => K .ret (mkSt 91 7 [(2, .d (.bool z0)), (8, .own 3 4), (10, .d (.int .i64 z1)), (11, .d (.int .i64 z2))] [(4, some (.row 3 z3))])) (fun z0 z1 z2 => K (.exit 0) (mkSt 91 7 [(8, .own 3 4), (10, .d (.int .i64 z0)), (11, .d (.int .i64 z1))] [(4, some (.row 3 z2))])) | _ => fun _ => none
def sh_keep_PausesAreEmpty_L19 : SSt := mkSh 91 7 [(10, .int .i64), (11, .int .i64), (75, .own 3 4), (76, .int .i64), (77, .int .i64)] [(4, .row 3)]
def LP_keep_PausesAreEmpty_L19 (g : C_keep_PausesAreEmpty) (n : Nat) : LPT A := fun ps => match ps with | [.d (.int .i64 p1), .d (.int .i64 p2), .d (.int .i64 p3), .d (.int .i64 p4), .d (.sl 3 p5)] => fun K => keep_PausesAreEmpty_L19 g n p1 p2 p3 p4 p5 (fun z0 z1 => K (.exit 2) (mkSt 91 7 [(10, .d (.int .i64 z0)), (11, .d (.int .i64 z1))] [])) | _ => fun _ => none
noncomputable def code_3 : Code := (Tryz.f3.body).getD .skip
noncomputable def E_keep_PausesAreEmpty (g : C_keep_PausesAreEmpty) : Env A := mkE [(4, SS_Stream_RightContacts g.Stream_RightContacts), (5, SS_Stream_Range g.Stream_Range), (6, SS_log_Pauses g.log_Pauses), (7, SS_log_Hours g.log_Hours), (8, SS_keep_errs g.keep_errs), (9, SS_slices_ContainsFunc__Window_keep_PausesAreEmpty_1 g.slices_ContainsFunc__Window_keep_PausesAreEmpty_1), (11, SS_keep_ready g.keep_ready)] [(5, [2]), (13, [6]), (18, [0]), (22, [1]), (37, [3]), (43, [4]), (48, [5])] [(11, ⟨[5, 6, 8, 10, 11, 51, 52, 53], [], [1, 2, 3, 4], []⟩), (19, ⟨[10, 11, 75, 76, 77], [], [4], []⟩)] [(11, ⟨[2, 8, 10, 11], [], [4], []⟩), (19, ⟨[10, 11], [], [], []⟩)] [(11, pieceOf sh_keep_PausesAreEmpty_L11 (LP_keep_PausesAreEmpty_L11 g g.N)), (19, pieceOf sh_keep_PausesAreEmpty_L19 (LP_keep_PausesAreEmpty_L19 g g.N))] [] [] [] [] []
theorem ct_keep_PausesAreEmpty [Fuel] : NatTab (E_keep_PausesAreEmpty I_keep_PausesAreEmpty).C := ct_of (P := Tryz.prog) (T := T) (.cons ok_Stream_RightContacts (.cons ok_Stream_Range (.cons ok_log_Pauses (.cons ok_log_Hours (.cons ok_keep_errs (.cons ok_slices_ContainsFunc__Window_keep_PausesAreEmpty_1 (.cons ok_keep_ready .nil))))))) (by kernel_rfl)
noncomputable def cb_keep_PausesAreEmpty_L11 : Code := sub [1, 1, 1, 1, 1, 1, 1, 1, 1, 0, 1, 0, 0] code_3
theorem s_keep_PausesAreEmpty_L11 (g : C_keep_PausesAreEmpty) (n : Nat) : StepOk (E_keep_PausesAreEmpty g) g.N cb_keep_PausesAreEmpty_L11 sh_keep_PausesAreEmpty_L11 (LP_keep_PausesAreEmpty_L11 g) n := by intro ps; unfold LP_keep_PausesAreEmpty_L11; split; exact .inr fun R K => (by kernel_rfl); exact .inl fun R K => rfl
theorem lf_keep_PausesAreEmpty_L11 [Fuel] : LoopFine (E_keep_PausesAreEmpty I_keep_PausesAreEmpty) NN cb_keep_PausesAreEmpty_L11 := fine_loop sh_keep_PausesAreEmpty_L11 (LP_keep_PausesAreEmpty_L11 I_keep_PausesAreEmpty) (by kernel_rfl) ct_keep_PausesAreEmpty (cuts0 (fun _ => rfl) (by kernel_rfl)) (fun ps R K => by unfold LP_keep_PausesAreEmpty_L11; split <;> (try unfold keep_PausesAreEmpty_L11) <;> rfl) (s_keep_PausesAreEmpty_L11 I_keep_PausesAreEmpty)
noncomputable def cb_keep_PausesAreEmpty_L19 : Code := sub [1, 1, 1, 1, 1, 1, 1, 1, 1, 1, 0, 1, 0, 0] code_3
theorem s_keep_PausesAreEmpty_L19 (g : C_keep_PausesAreEmpty) (n : Nat) : StepOk (E_keep_PausesAreEmpty g) g.N cb_keep_PausesAreEmpty_L19 sh_keep_PausesAreEmpty_L19 (LP_keep_PausesAreEmpty_L19 g) n := by intro ps; unfold LP_keep_PausesAreEmpty_L19; split; exact .inr fun R K => (by kernel_rfl); exact .inl fun R K => rfl
theorem lf_keep_PausesAreEmpty_L19 [Fuel] : LoopFine (E_keep_PausesAreEmpty I_keep_PausesAreEmpty) NN cb_keep_PausesAreEmpty_L19 := fine_loop sh_keep_PausesAreEmpty_L19 (LP_keep_PausesAreEmpty_L19 I_keep_PausesAreEmpty) (by kernel_rfl) ct_keep_PausesAreEmpty (cuts0 (fun _ => rfl) (by kernel_rfl)) (fun ps R K => by unfold LP_keep_PausesAreEmpty_L19; split <;> (try unfold keep_PausesAreEmpty_L19) <;> rfl) (s_keep_PausesAreEmpty_L19 I_keep_PausesAreEmpty)
theorem sm_keep_PausesAreEmpty (g : C_keep_PausesAreEmpty) : Same (SS_keep_PausesAreEmpty (@keep_PausesAreEmpty_ g)) (abody (E_keep_PausesAreEmpty g) Tryz.f3 code_3 7 [] [.asis] g.N) := by intro args; unfold SS_keep_PausesAreEmpty; split; exact .inr fun R k => (by kernel_rfl); exact .inl fun R k => rfl
theorem ok_keep_PausesAreEmpty [Fuel] : Ok 3 (SS_keep_PausesAreEmpty (@keep_PausesAreEmpty _)) := okF_of std (.cons ok_Stream_RightContacts (.cons ok_Stream_Range (.cons ok_log_Pauses (.cons ok_log_Hours (.cons ok_keep_errs (.cons ok_slices_ContainsFunc__Window_keep_PausesAreEmpty_1 (.cons ok_keep_ready .nil))))))) ⟨rfl, rfl, by kernel_rfl, rfl, rfl, rfl⟩ (sm_keep_PausesAreEmpty I_keep_PausesAreEmpty) (cutsL (fun _ => rfl) (.cons lf_keep_PausesAreEmpty_L11 (.cons lf_keep_PausesAreEmpty_L19 .nil)) (by kernel_rfl)) Tryz.func3 (by kernel_rfl) (by kernel_rfl)
end Go.Am
