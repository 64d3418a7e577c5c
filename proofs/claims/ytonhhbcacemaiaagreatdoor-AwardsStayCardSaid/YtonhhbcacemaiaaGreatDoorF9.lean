/- The functions of the program as Lean functions, each shown to be what the code computes, part 9. No condition: lemmas for the claim. -/
import Derived.Test.YtonhhbcacemaiaaGreatDoorF0
import Derived.Test.YtonhhbcacemaiaaGreatDoorFSh
import Derived.Test.YtonhhbcacemaiaaGreatDoorF1
import Derived.Test.YtonhhbcacemaiaaGreatDoorF3
import Derived.Test.YtonhhbcacemaiaaGreatDoorF5
import Derived.Test.YtonhhbcacemaiaaGreatDoorF6
import Derived.Test.YtonhhbcacemaiaaGreatDoorF7
import Derived.Test.YtonhhbcacemaiaaGreatDoorF8
set_option linter.unusedVariables false
set_option maxRecDepth 100000
namespace Go.Am
open Go Go.Proofs
abbrev T_keep_ready : Type 1 := {R : Type} → (Bool → Option R) → Option R
structure C_keep_ready where
 N : Nat
 band_May : T_band_May
 keep_errs : T_keep_errs
 log_Dupes : T_log_Dupes
 club_Table : T_club_Table
 net_Next : T_net_Next
def keep_ready_ (g : C_keep_ready)  {R : Type} (k0 : Bool → Option R) : Option R :=
 (g.log_Dupes [(⟨0, 1, [98], [107, 49, 97, 98], 0, 0, [], []⟩ : G_Contact), (⟨5, 1, [98], [107, 49, 97, 98], 0, 0, [], []⟩ : G_Contact)] (fun r1 r2 => (g.band_May [(⟨[99], 5, 8, [1], (⟨0, 9⟩ : G_Window)⟩ : G_Segment)] [99] 6 3 1 0 (fun r3 r4 => (g.club_Table [(⟨[107, 49, 97, 98], [99], 5, []⟩ : G_Entrant)] [99] (fun r5 r6 => (g.net_Next [(⟨[97], 1, 0, 3, (⟨0, 0, [], [], 1, 0, [], []⟩ : G_Contact), [], [], 0⟩ : G_Deed)] 0 (fun r7 r8 => (g.keep_errs [r2, r4, r6, r8] (fun r9 => (bif (r9 == 0) then (bif ((r1.length : Int) == 1) then (bif r3 then (bif ((r5.length : Int) == 1) then k0 (r7 == 2) else k0 false) else k0 false) else k0 false) else k0 false)))))))))))
noncomputable def I_keep_ready [Fuel] : C_keep_ready := ⟨NN, @band_May _, @keep_errs _, @log_Dupes _, @club_Table _, @net_Next _⟩
noncomputable def keep_ready [Fuel] : T_keep_ready := @keep_ready_ I_keep_ready
def SS_keep_ready (g : T_keep_ready) : Spec A := fun args => match args with | [] => fun k => g (fun z0 => k (.d (.bool z0)) []) | _ => fun _ => none
noncomputable def code_11 : Code := (Tryz.f11.body).getD .skip
noncomputable def E_keep_ready (g : C_keep_ready) : Env A := mkE [(12, SS_band_May g.band_May), (18, SS_keep_errs g.keep_errs), (57, SS_log_Dupes g.log_Dupes), (58, SS_club_Table g.club_Table), (59, SS_net_Next g.net_Next)] [(1, [0]), (2, [1]), (17, [2]), (18, [3]), (22, [4]), (25, [5]), (31, [6]), (32, [7]), (38, [8]), (46, [9])] [] [] [] [] [] [] [] []
theorem sm_keep_ready (g : C_keep_ready) : Same (SS_keep_ready (@keep_ready_ g)) (abody (E_keep_ready g) Tryz.f11 code_11 10 [] [.asis] g.N) := by intro args; unfold SS_keep_ready; split; exact .inr fun R k => (by kernel_rfl); exact .inl fun R k => rfl
theorem ok_keep_ready [Fuel] : Ok 11 (SS_keep_ready (@keep_ready _)) := okF_of std (.cons ok_band_May (.cons ok_keep_errs (.cons ok_log_Dupes (.cons ok_club_Table (.cons ok_net_Next .nil))))) ⟨rfl, rfl, by kernel_rfl, rfl, rfl, rfl⟩ (sm_keep_ready I_keep_ready) (cuts0 (fun _ => rfl) (by kernel_rfl)) Tryz.func11 (by kernel_rfl) (by kernel_rfl)
abbrev T_keep_AwardsStay : Type 1 := List Int → {R : Type} → (Bool → Option R) → Option R
structure C_keep_AwardsStay where
 N : Nat
 Stream_Range : T_Stream_Range
 keep_ready : T_keep_ready
 Stream_RightCards : T_Stream_RightCards
 club_When : T_club_When
 club_Progress : T_club_Progress
 strings_HasSuffix : T_strings_HasSuffix
def keep_AwardsStay_L8 (g : C_keep_AwardsStay) : Nat → Int → Bool → Int → Int → List G_Card → G_Award → List Int → {R : Type} → (Bool → Option R) → Option R → Option R
 | 0, _, _, _, _, _, _, _, _, _, _ => none
 | n + 1, v13, v14, v15, v16, v17, v18, v19, _, e0, e1 => (bif (decide (v16 < v15)) then (inr v19 v16 (at_ v19 v16 fun x25 => (g.club_Progress [v18] v17 x25 (fun r26 r27 => (bif (r27 != 0) then e0 false else (bif ((r26.length : Int) != 1) then e0 false else (inr r26 0 (at_ r26 0 fun x28 => (g.strings_HasSuffix x28.f_Value [32, 121, 101, 115] (fun r29 => (bif v14 then (bif (!(r29 == (decide (x25 ≥ v13)))) then e0 false else keep_AwardsStay_L8 g n v13 v14 v15 (w64 (v16 + 1)) v17 v18 v19 e0 e1) else (bif (!(r29 == false)) then e0 false else keep_AwardsStay_L8 g n v13 v14 v15 (w64 (v16 + 1)) v17 v18 v19 e0 e1)))))))))))) else e1)
def keep_AwardsStay_ (g : C_keep_AwardsStay) (a1 : List Int) {R : Type} (k0 : Bool → Option R) : Option R :=
 (g.Stream_Range (⟨a1, 0⟩ : G_Stream) 0 14 (fun r2 r3 => (g.Stream_RightCards r3 r2 (fun r4 r5 => (g.Stream_Range r5 1 4 (fun r6 r7 => (g.Stream_Range r7 1 4 (fun r8 r9 => (g.club_When (⟨[97], [], r6, r8⟩ : G_Award) r4 (fun r10 r11 r12 => (bif (r12 != 0) then k0 false else (keep_AwardsStay_L8 g g.N r10 r11 ([0, 5, 20, 50, 200].length : Int) 0 r4 (⟨[97], [], r6, r8⟩ : G_Award) [0, 5, 20, 50, 200] (fun e30 => k0 e30) (g.keep_ready (fun r31 => k0 r31))))))))))))))
noncomputable def I_keep_AwardsStay [Fuel] : C_keep_AwardsStay := ⟨NN, @Stream_Range _, @keep_ready _, @Stream_RightCards _, @club_When _, @club_Progress _, @strings_HasSuffix _⟩
noncomputable def keep_AwardsStay [Fuel] : T_keep_AwardsStay := @keep_AwardsStay_ I_keep_AwardsStay
def SS_keep_AwardsStay (g : T_keep_AwardsStay) : Spec A := fun args => match args with | [.d (.sl 3 a1)] => fun k => g a1 (fun z0 => k (.d (.bool z0)) [.undef]) | _ => fun _ => none
def sh_keep_AwardsStay_L8 : SSt := mkSh 71 6 [(4, .own 46 1), (5, .ptr 2 0), (6, .int .i64), (7, .bool), (34, .own 3 3), (35, .int .i64), (36, .int .i64)] [(1, .row 46), (2, .box [.str, .str, .int .i64, .int .i64]), (3, .row 3)]
def LP_keep_AwardsStay_L8 (g : C_keep_AwardsStay) (n : Nat) : LPT A := fun ps => match ps with | [.d (.int .i64 p1), .d (.bool p2), .d (.int .i64 p3), .d (.int .i64 p4), .d (.sl 46 p5), .d (.str p6), .d (.str p7), .d (.int .i64 p8), .d (.int .i64 p9), .d (.sl 3 p10)] => fun K => keep_AwardsStay_L8 g n p1 p2 p3 p4 p5 ⟨p6, p7, p8, p9⟩ p10 (fun z0 => K .ret (mkSt 71 6 [(2, .d (.bool z0))] [])) (K (.exit 0) (mkSt 71 6 [] [])) | _ => fun _ => none
noncomputable def code_5 : Code := (Tryz.f5.body).getD .skip
noncomputable def E_keep_AwardsStay (g : C_keep_AwardsStay) : Env A := mkE [(8, SS_Stream_Range g.Stream_Range), (11, SS_keep_ready g.keep_ready), (13, SS_Stream_RightCards g.Stream_RightCards), (24, SS_club_When g.club_When), (25, SS_club_Progress g.club_Progress), (26, SS_strings_HasSuffix g.strings_HasSuffix)] [(5, [2]), (15, [0]), (19, [1]), (34, [3]), (42, [4]), (45, [5])] [(8, ⟨[4, 5, 6, 7, 34, 35, 36], [], [1, 2, 3], []⟩)] [(8, ⟨[2], [], [], []⟩)] [(8, pieceOf sh_keep_AwardsStay_L8 (LP_keep_AwardsStay_L8 g g.N))] [] [] [] [] []
theorem ct_keep_AwardsStay [Fuel] : NatTab (E_keep_AwardsStay I_keep_AwardsStay).C := ct_of (P := Tryz.prog) (T := T) (.cons ok_Stream_Range (.cons ok_keep_ready (.cons ok_Stream_RightCards (.cons ok_club_When (.cons ok_club_Progress (.cons ok_strings_HasSuffix .nil)))))) (by kernel_rfl)
noncomputable def cb_keep_AwardsStay_L8 : Code := sub [1, 1, 1, 1, 1, 1, 0, 1, 0, 0] code_5
theorem s_keep_AwardsStay_L8 (g : C_keep_AwardsStay) (n : Nat) : StepOk (E_keep_AwardsStay g) g.N cb_keep_AwardsStay_L8 sh_keep_AwardsStay_L8 (LP_keep_AwardsStay_L8 g) n := by intro ps; unfold LP_keep_AwardsStay_L8; split; exact .inr fun R K => (by kernel_rfl); exact .inl fun R K => rfl
theorem lf_keep_AwardsStay_L8 [Fuel] : LoopFine (E_keep_AwardsStay I_keep_AwardsStay) NN cb_keep_AwardsStay_L8 := fine_loop sh_keep_AwardsStay_L8 (LP_keep_AwardsStay_L8 I_keep_AwardsStay) (by kernel_rfl) ct_keep_AwardsStay (cuts0 (fun _ => rfl) (by kernel_rfl)) (fun ps R K => by unfold LP_keep_AwardsStay_L8; split <;> (try unfold keep_AwardsStay_L8) <;> rfl) (s_keep_AwardsStay_L8 I_keep_AwardsStay)
theorem sm_keep_AwardsStay (g : C_keep_AwardsStay) : Same (SS_keep_AwardsStay (@keep_AwardsStay_ g)) (abody (E_keep_AwardsStay g) Tryz.f5 code_5 6 [] [.asis] g.N) := by intro args; unfold SS_keep_AwardsStay; split; exact .inr fun R k => (by kernel_rfl); exact .inl fun R k => rfl
theorem ok_keep_AwardsStay [Fuel] : Ok 5 (SS_keep_AwardsStay (@keep_AwardsStay _)) := okF_of std (.cons ok_Stream_Range (.cons ok_keep_ready (.cons ok_Stream_RightCards (.cons ok_club_When (.cons ok_club_Progress (.cons ok_strings_HasSuffix .nil)))))) ⟨rfl, rfl, by kernel_rfl, rfl, rfl, rfl⟩ (sm_keep_AwardsStay I_keep_AwardsStay) (cutsL (fun _ => rfl) (.cons lf_keep_AwardsStay_L8 .nil) (by kernel_rfl)) Tryz.func5 (by kernel_rfl) (by kernel_rfl)
end Go.Am
