/- The functions of the program as Lean functions, each shown to be what the code computes, part 5. No condition: lemmas for the claim. -/
import Derived.Test.YtonhhbcacemaiaaGreatDoorF0
import Derived.Test.YtonhhbcacemaiaaGreatDoorFSh
import Derived.Test.YtonhhbcacemaiaaGreatDoorF1
import Derived.Test.YtonhhbcacemaiaaGreatDoorF3
import Derived.Test.YtonhhbcacemaiaaGreatDoorF4
set_option linter.unusedVariables false
set_option maxRecDepth 100000
namespace Go.Am
open Go Go.Proofs
abbrev T_club_When : Type 1 := G_Award → List G_Card → {R : Type} → (Int → Bool → Int → Option R) → Option R
structure C_club_When where
 N : Nat
 club_CheckCards : T_club_CheckCards
 club_confirmed : T_club_confirmed
 club_CheckAwards : T_club_CheckAwards
 club_reached : T_club_reached
def club_When_ (g : C_club_When) (a1 : G_Award) (a2 : List G_Card) {R : Type} (k0 : Int → Bool → Int → Option R) : Option R :=
 (g.club_CheckAwards [a1] (fun r3 => (bif (r3 != 0) then k0 0 false r3 else (g.club_CheckCards a2 (fun r4 => (bif (r4 != 0) then k0 0 false r4 else (g.club_confirmed a2 345686400000 (fun r5 => (g.club_reached a1 r5 (fun r6 r7 => k0 (if 0 > r7 then 0 else r7) (decide (r7 ≥ 0)) 0))))))))))
noncomputable def I_club_When [Fuel] : C_club_When := ⟨NN, @club_CheckCards _, @club_confirmed _, @club_CheckAwards _, @club_reached _⟩
noncomputable def club_When [Fuel] : T_club_When := @club_When_ I_club_When
def SS_club_When (g : T_club_When) : Spec A := fun args => match args with | [.agg [.d (.str a1), .d (.str a2), .d (.int .i64 a3), .d (.int .i64 a4)], .d (.sl 46 a5)] => fun k => g ⟨a1, a2, a3, a4⟩ a5 (fun z0 z1 z2 => k (.tup [.d (.int .i64 z0), .d (.bool z1), .d (.int .i64 z2)]) [.undef, .undef]) | _ => fun _ => none
noncomputable def code_24 : Code := (Tryz.f24.body).getD .skip
noncomputable def E_club_When (g : C_club_When) : Env A := mkE [(66, SS_club_CheckCards g.club_CheckCards), (72, SS_club_confirmed g.club_confirmed), (81, SS_club_CheckAwards g.club_CheckAwards), (82, SS_club_reached g.club_reached)] [(2, [0]), (12, [1]), (25, [2])] [] [] [] [] [] [] [] []
theorem sm_club_When (g : C_club_When) : Same (SS_club_When (@club_When_ g)) (abody (E_club_When g) Tryz.f24 code_24 3 [] [.asis, .asis, .asis] g.N) := by intro args; unfold SS_club_When; split; exact .inr fun R k => (by kernel_rfl); exact .inl fun R k => rfl
theorem ok_club_When [Fuel] : Ok 24 (SS_club_When (@club_When _)) := okF_of std (.cons ok_club_CheckCards (.cons ok_club_confirmed (.cons ok_club_CheckAwards (.cons ok_club_reached .nil)))) ⟨rfl, rfl, by kernel_rfl, rfl, rfl, rfl⟩ (sm_club_When I_club_When) (cuts0 (fun _ => rfl) (by kernel_rfl)) Tryz.func24 (by kernel_rfl) (by kernel_rfl)
abbrev T_club_cardsFault : Type 1 := List G_Card → Int → {R : Type} → (Int → Option R) → Option R
structure C_club_cardsFault where
 N : Nat
 kit_IsMoment : T_kit_IsMoment
 club_CheckCards : T_club_CheckCards
def club_cardsFault_ (g : C_club_cardsFault) (a1 : List G_Card) (a2 : Int) {R : Type} (k0 : Int → Option R) : Option R :=
 (g.club_CheckCards a1 (fun r3 => (bif (r3 != 0) then k0 r3 else (g.kit_IsMoment a2 (fun r4 => (bif (!r4) then k0 1 else k0 0))))))
noncomputable def I_club_cardsFault [Fuel] : C_club_cardsFault := ⟨NN, @kit_IsMoment _, @club_CheckCards _⟩
noncomputable def club_cardsFault [Fuel] : T_club_cardsFault := @club_cardsFault_ I_club_cardsFault
def SS_club_cardsFault (g : T_club_cardsFault) : Spec A := fun args => match args with | [.d (.sl 46 a1), .d (.int .i64 a2)] => fun k => g a1 a2 (fun z0 => k (.d (.int .i64 z0)) [.undef, .undef]) | _ => fun _ => none
noncomputable def code_71 : Code := (Tryz.f71.body).getD .skip
noncomputable def E_club_cardsFault (g : C_club_cardsFault) : Env A := mkE [(51, SS_kit_IsMoment g.kit_IsMoment), (66, SS_club_CheckCards g.club_CheckCards)] [] [] [] [] [] [] [] [] []
theorem sm_club_cardsFault (g : C_club_cardsFault) : Same (SS_club_cardsFault (@club_cardsFault_ g)) (abody (E_club_cardsFault g) Tryz.f71 code_71 0 [] [.asis] g.N) := by intro args; unfold SS_club_cardsFault; split; exact .inr fun R k => (by kernel_rfl); exact .inl fun R k => rfl
theorem ok_club_cardsFault [Fuel] : Ok 71 (SS_club_cardsFault (@club_cardsFault _)) := okF_of std (.cons ok_kit_IsMoment (.cons ok_club_CheckCards .nil)) ⟨rfl, rfl, by kernel_rfl, rfl, rfl, rfl⟩ (sm_club_cardsFault I_club_cardsFault) (cuts0 (fun _ => rfl) (by kernel_rfl)) Tryz.func71 (by kernel_rfl) (by kernel_rfl)
abbrev T_strconv_Itoa : Type 1 := Int → {R : Type} → (List UInt8 → Option R) → Option R
def strconv_Itoa [Fuel] : T_strconv_Itoa := @X_itoa
def SS_strconv_Itoa (g : T_strconv_Itoa) : Spec A := SSX_itoa g
theorem ok_strconv_Itoa [Fuel] : Ok 83 (SS_strconv_Itoa (@strconv_Itoa _)) := ⟨ssx_itoa_sound (fun w h => h) (fun n w h0 h1 ht => Any.strconv_Itoa Tryz.laysM171 n h0 h1 w ht), ssx_itoa_nat, enters_of (fn := Tryz.f83) Tryz.func83 (by kernel_rfl) (by kernel_rfl)⟩
abbrev T_club_Progress : Type 1 := List G_Award → List G_Card → Int → {R : Type} → (List G_Pair → Int → Option R) → Option R
structure C_club_Progress where
 N : Nat
 club_cardsFault : T_club_cardsFault
 club_confirmed : T_club_confirmed
 club_CheckAwards : T_club_CheckAwards
 club_reached : T_club_reached
 strconv_Itoa : T_strconv_Itoa
def club_Progress_L10 (g : C_club_Progress) : Nat → List G_Award → Int → Int → List G_Card → List G_Pair → {R : Type} → (List G_Pair → Option R) → Option R
 | 0, _, _, _, _, _, _, _ => none
 | n + 1, v7, v8, v9, v10, v11, _, e0 => (bif (decide (v9 < v8)) then (get_ v7 v9 fun x17 => (g.club_reached x17 v10 (fun r18 r19 => (g.strconv_Itoa r18 (fun r20 => (bif (strOk r20 [47]) then (g.strconv_Itoa x17.f_Need (fun r21 => (bif (strOk (r20 ++ [47]) r21) then (bif (decide (r19 ≥ 0)) then (bif (strOk ((r20 ++ [47]) ++ r21) [32, 121, 101, 115]) then (bif (decide ((v11.length + [(⟨x17.f_Key, (((r20 ++ [47]) ++ r21) ++ [32, 121, 101, 115])⟩ : G_Pair)].length) * 32 ≤ roomBytes')) then club_Progress_L10 g n v7 v8 (w64 (v9 + 1)) v10 (v11 ++ [(⟨x17.f_Key, (((r20 ++ [47]) ++ r21) ++ [32, 121, 101, 115])⟩ : G_Pair)]) e0 else none) else none) else (bif (decide ((v11.length + [(⟨x17.f_Key, ((r20 ++ [47]) ++ r21)⟩ : G_Pair)].length) * 32 ≤ roomBytes')) then club_Progress_L10 g n v7 v8 (w64 (v9 + 1)) v10 (v11 ++ [(⟨x17.f_Key, ((r20 ++ [47]) ++ r21)⟩ : G_Pair)]) e0 else none)) else none))) else none)))))) else e0 v11)
def club_Progress_ (g : C_club_Progress) (a1 : List G_Award) (a2 : List G_Card) (a3 : Int) {R : Type} (k0 : List G_Pair → Int → Option R) : Option R :=
 (g.club_CheckAwards a1 (fun r4 => (bif (r4 != 0) then k0 [] r4 else (g.club_cardsFault a2 a3 (fun r5 => (bif (r5 != 0) then k0 [] r5 else (g.club_confirmed a2 a3 (fun r6 => (club_Progress_L10 g g.N a1 (a1.length : Int) 0 r6 [] (fun e22 => k0 e22 0))))))))))
noncomputable def I_club_Progress [Fuel] : C_club_Progress := ⟨NN, @club_cardsFault _, @club_confirmed _, @club_CheckAwards _, @club_reached _, @strconv_Itoa _⟩
noncomputable def club_Progress [Fuel] : T_club_Progress := @club_Progress_ I_club_Progress
def SS_club_Progress (g : T_club_Progress) : Spec A := fun args => match args with | [.d (.sl 62 a1), .d (.sl 46 a2), .d (.int .i64 a3)] => fun k => g a1 a2 a3 (fun z0 z1 => k (.tup [.arr 56 z0, .d (.int .i64 z1)]) [.undef, .undef, .undef]) | _ => fun _ => none
def sh_club_Progress_L10 : SSt := mkSh 63 5 [(10, .own 46 0), (11, .own 56 1), (31, .sl 62), (32, .int .i64), (33, .int .i64)] [(0, .row 46), (1, .row 56)]
def LP_club_Progress_L10 (g : C_club_Progress) (n : Nat) : LPT A := fun ps => match ps with | [.d (.sl 62 p1), .d (.int .i64 p2), .d (.int .i64 p3), .d (.sl 46 p4), .d (.sl 56 p5)] => fun K => club_Progress_L10 g n p1 p2 p3 p4 p5 (fun z0 => K (.exit 0) (mkSt 63 5 [(11, .own 56 1)] [(1, some (.row 56 z0))])) | _ => fun _ => none
noncomputable def code_25 : Code := (Tryz.f25.body).getD .skip
noncomputable def E_club_Progress (g : C_club_Progress) : Env A := mkE [(71, SS_club_cardsFault g.club_cardsFault), (72, SS_club_confirmed g.club_confirmed), (81, SS_club_CheckAwards g.club_CheckAwards), (82, SS_club_reached g.club_reached), (83, SS_strconv_Itoa g.strconv_Itoa)] [(13, [2]), (30, [0]), (59, [3]), (60, [4])] [(10, ⟨[10, 11, 31, 32, 33], [(11, 56, 1)], [0], []⟩)] [(10, ⟨[11], [], [1], []⟩)] [(10, pieceOf sh_club_Progress_L10 (LP_club_Progress_L10 g g.N))] [] [] [] [] []
theorem ct_club_Progress [Fuel] : NatTab (E_club_Progress I_club_Progress).C := ct_of (P := Tryz.prog) (T := T) (.cons ok_club_cardsFault (.cons ok_club_confirmed (.cons ok_club_CheckAwards (.cons ok_club_reached (.cons ok_strconv_Itoa .nil))))) (by kernel_rfl)
noncomputable def cb_club_Progress_L10 : Code := sub [1, 1, 1, 1, 1, 0, 1, 0, 0] code_25
theorem s_club_Progress_L10 (g : C_club_Progress) (n : Nat) : StepOk (E_club_Progress g) g.N cb_club_Progress_L10 sh_club_Progress_L10 (LP_club_Progress_L10 g) n := by intro ps; unfold LP_club_Progress_L10; split; exact .inr fun R K => (by kernel_rfl); exact .inl fun R K => rfl
theorem lf_club_Progress_L10 [Fuel] : LoopFine (E_club_Progress I_club_Progress) NN cb_club_Progress_L10 := fine_loop sh_club_Progress_L10 (LP_club_Progress_L10 I_club_Progress) (by kernel_rfl) ct_club_Progress (cuts0 (fun _ => rfl) (by kernel_rfl)) (fun ps R K => by unfold LP_club_Progress_L10; split <;> (try unfold club_Progress_L10) <;> rfl) (s_club_Progress_L10 I_club_Progress)
theorem sm_club_Progress (g : C_club_Progress) : Same (SS_club_Progress (@club_Progress_ g)) (abody (E_club_Progress g) Tryz.f25 code_25 5 [] [.arr 56, .asis] g.N) := by intro args; unfold SS_club_Progress; split; exact .inr fun R k => (by kernel_rfl); exact .inl fun R k => rfl
theorem ok_club_Progress [Fuel] : Ok 25 (SS_club_Progress (@club_Progress _)) := okF_of std (.cons ok_club_cardsFault (.cons ok_club_confirmed (.cons ok_club_CheckAwards (.cons ok_club_reached (.cons ok_strconv_Itoa .nil))))) ⟨rfl, rfl, by kernel_rfl, rfl, rfl, rfl⟩ (sm_club_Progress I_club_Progress) (cutsL (fun _ => rfl) (.cons lf_club_Progress_L10 .nil) (by kernel_rfl)) Tryz.func25 (by kernel_rfl) (by kernel_rfl)
abbrev T_stringslite_HasSuffix : Type 1 := List UInt8 → List UInt8 → {R : Type} → (Bool → Option R) → Option R
def stringslite_HasSuffix_ (g : Nat) (a1 a2 : List UInt8) {R : Type} (k0 : Bool → Option R) : Option R :=
 (bif (decide ((a1.length : Int) ≥ (a2.length : Int))) then (bif (decide (0 ≤ (w64 ((a1.length : Int) - (a2.length : Int)))) && decide ((w64 ((a1.length : Int) - (a2.length : Int))) ≤ (a1.length : Int))) then k0 ((a1.drop ((w64 ((a1.length : Int) - (a2.length : Int))) : Int).toNat) == a2) else none) else k0 false)
noncomputable def stringslite_HasSuffix [Fuel] : T_stringslite_HasSuffix := @stringslite_HasSuffix_ NN
def SS_stringslite_HasSuffix (g : T_stringslite_HasSuffix) : Spec A := fun args => match args with | [.d (.str a1), .d (.str a2)] => fun k => g a1 a2 (fun z0 => k (.d (.bool z0)) [.undef, .undef]) | _ => fun _ => none
noncomputable def code_84 : Code := (Tryz.f84.body).getD .skip
noncomputable def E_stringslite_HasSuffix (g : Nat) : Env A := mkE [] [] [] [] [] [] [] [] [] []
theorem sm_stringslite_HasSuffix (g : Nat) : Same (SS_stringslite_HasSuffix (@stringslite_HasSuffix_ g)) (abody (E_stringslite_HasSuffix g) Tryz.f84 code_84 0 [] [.asis] g) := by intro args; unfold SS_stringslite_HasSuffix; split; exact .inr fun R k => (by kernel_rfl); exact .inl fun R k => rfl
theorem ok_stringslite_HasSuffix [Fuel] : Ok 84 (SS_stringslite_HasSuffix (@stringslite_HasSuffix _)) := okF_of std .nil ⟨rfl, rfl, by kernel_rfl, rfl, rfl, rfl⟩ (sm_stringslite_HasSuffix NN) (cuts0 (fun _ => rfl) (by kernel_rfl)) Tryz.func84 (by kernel_rfl) (by kernel_rfl)
abbrev T_strings_HasSuffix : Type 1 := List UInt8 → List UInt8 → {R : Type} → (Bool → Option R) → Option R
structure C_strings_HasSuffix where
 N : Nat
 stringslite_HasSuffix : T_stringslite_HasSuffix
def strings_HasSuffix_ (g : C_strings_HasSuffix) (a1 a2 : List UInt8) {R : Type} (k0 : Bool → Option R) : Option R :=
 (g.stringslite_HasSuffix a1 a2 (fun r3 => k0 r3))
noncomputable def I_strings_HasSuffix [Fuel] : C_strings_HasSuffix := ⟨NN, @stringslite_HasSuffix _⟩
noncomputable def strings_HasSuffix [Fuel] : T_strings_HasSuffix := @strings_HasSuffix_ I_strings_HasSuffix
def SS_strings_HasSuffix (g : T_strings_HasSuffix) : Spec A := fun args => match args with | [.d (.str a1), .d (.str a2)] => fun k => g a1 a2 (fun z0 => k (.d (.bool z0)) [.undef, .undef]) | _ => fun _ => none
noncomputable def code_26 : Code := (Tryz.f26.body).getD .skip
noncomputable def E_strings_HasSuffix (g : C_strings_HasSuffix) : Env A := mkE [(84, SS_stringslite_HasSuffix g.stringslite_HasSuffix)] [] [] [] [] [] [] [] [] []
theorem sm_strings_HasSuffix (g : C_strings_HasSuffix) : Same (SS_strings_HasSuffix (@strings_HasSuffix_ g)) (abody (E_strings_HasSuffix g) Tryz.f26 code_26 0 [] [.asis] g.N) := by intro args; unfold SS_strings_HasSuffix; split; exact .inr fun R k => (by kernel_rfl); exact .inl fun R k => rfl
theorem ok_strings_HasSuffix [Fuel] : Ok 26 (SS_strings_HasSuffix (@strings_HasSuffix _)) := okF_of std (.cons ok_stringslite_HasSuffix .nil) ⟨rfl, rfl, by kernel_rfl, rfl, rfl, rfl⟩ (sm_strings_HasSuffix I_strings_HasSuffix) (cuts0 (fun _ => rfl) (by kernel_rfl)) Tryz.func26 (by kernel_rfl) (by kernel_rfl)
abbrev T_log_CheckContact : Type 1 := G_Contact → {R : Type} → (Int → Option R) → Option R
structure C_log_CheckContact where
 N : Nat
 kit_IsKey : T_kit_IsKey
 kit_IsMode : T_kit_IsMode
 kit_IsMoment : T_kit_IsMoment
 kit_Outside : T_kit_Outside
 call_Is : T_call_Is
 kit_IsName : T_kit_IsName
def log_CheckContact_ (g : C_log_CheckContact) (a1 : G_Contact) {R : Type} (k0 : Int → Option R) : Option R :=
 (g.kit_IsMoment a1.f_At (fun r2 => (bif (!r2) then k0 1 else (g.kit_IsMode a1.f_Mode (fun r3 => (bif (!r3) then k0 4 else (g.kit_IsKey a1.f_Band (fun r4 => (bif (!r4) then k0 5 else (g.call_Is a1.f_Call (fun r5 => (bif (!r5) then k0 3 else (g.kit_Outside a1.f_Sent 0 99999 (fun r6 => (bif r6 then k0 1 else (g.kit_Outside a1.f_Heard 0 99999 (fun r7 => (bif r7 then k0 1 else (g.kit_IsName a1.f_Gave (fun r8 => (bif (!r8) then k0 5 else (g.kit_IsName a1.f_Got (fun r9 => (bif (!r9) then k0 5 else k0 0))))))))))))))))))))))))
noncomputable def I_log_CheckContact [Fuel] : C_log_CheckContact := ⟨NN, @kit_IsKey _, @kit_IsMode _, @kit_IsMoment _, @kit_Outside _, @call_Is _, @kit_IsName _⟩
noncomputable def log_CheckContact [Fuel] : T_log_CheckContact := @log_CheckContact_ I_log_CheckContact
def SS_log_CheckContact (g : T_log_CheckContact) : Spec A := fun args => match args with | [.agg [.d (.int .i64 a1), .d (.int .i64 a2), .d (.str a3), .d (.str a4), .d (.int .i64 a5), .d (.int .i64 a6), .d (.str a7), .d (.str a8)]] => fun k => g ⟨a1, a2, a3, a4, a5, a6, a7, a8⟩ (fun z0 => k (.d (.int .i64 z0)) [.undef]) | _ => fun _ => none
noncomputable def code_164 : Code := (Tryz.f164.body).getD .skip
noncomputable def E_log_CheckContact (g : C_log_CheckContact) : Env A := mkE [(49, SS_kit_IsKey g.kit_IsKey), (50, SS_kit_IsMode g.kit_IsMode), (51, SS_kit_IsMoment g.kit_IsMoment), (60, SS_kit_Outside g.kit_Outside), (97, SS_call_Is g.call_Is), (199, SS_kit_IsName g.kit_IsName)] [(1, [0])] [] [] [] [] [] [] [] []
theorem sm_log_CheckContact (g : C_log_CheckContact) : Same (SS_log_CheckContact (@log_CheckContact_ g)) (abody (E_log_CheckContact g) Tryz.f164 code_164 1 [] [.asis] g.N) := by intro args; unfold SS_log_CheckContact; split; exact .inr fun R k => (by kernel_rfl); exact .inl fun R k => rfl
theorem ok_log_CheckContact [Fuel] : Ok 164 (SS_log_CheckContact (@log_CheckContact _)) := okF_of std (.cons ok_kit_IsKey (.cons ok_kit_IsMode (.cons ok_kit_IsMoment (.cons ok_kit_Outside (.cons ok_call_Is (.cons ok_kit_IsName .nil)))))) ⟨rfl, rfl, by kernel_rfl, rfl, rfl, rfl⟩ (sm_log_CheckContact I_log_CheckContact) (cuts0 (fun _ => rfl) (by kernel_rfl)) Tryz.func164 (by kernel_rfl) (by kernel_rfl)
abbrev T_log_Compare : Type 1 := G_Contact → G_Contact → {R : Type} → (Int → Option R) → Option R
structure C_log_Compare where
 N : Nat
 strings_Compare : T_strings_Compare
 cmp_Or__int : T_cmp_Or__int
 cmp_Compare__int : T_cmp_Compare__int
def log_Compare_ (g : C_log_Compare) (a1 a2 : G_Contact) {R : Type} (k0 : Int → Option R) : Option R :=
 (g.cmp_Compare__int a1.f_At a2.f_At (fun r3 => (g.strings_Compare a1.f_Call a2.f_Call (fun r4 => (g.strings_Compare a1.f_Band a2.f_Band (fun r5 => (g.cmp_Compare__int a1.f_Mode a2.f_Mode (fun r6 => (g.cmp_Or__int [r3, r4, r5, r6] (fun r7 => k0 r7))))))))))
noncomputable def I_log_Compare [Fuel] : C_log_Compare := ⟨NN, @strings_Compare _, @cmp_Or__int _, @cmp_Compare__int _⟩
noncomputable def log_Compare [Fuel] : T_log_Compare := @log_Compare_ I_log_Compare
def SS_log_Compare (g : T_log_Compare) : Spec A := fun args => match args with | [.agg [.d (.int .i64 a1), .d (.int .i64 a2), .d (.str a3), .d (.str a4), .d (.int .i64 a5), .d (.int .i64 a6), .d (.str a7), .d (.str a8)], .agg [.d (.int .i64 a9), .d (.int .i64 a10), .d (.str a11), .d (.str a12), .d (.int .i64 a13), .d (.int .i64 a14), .d (.str a15), .d (.str a16)]] => fun k => g ⟨a1, a2, a3, a4, a5, a6, a7, a8⟩ ⟨a9, a10, a11, a12, a13, a14, a15, a16⟩ (fun z0 => k (.d (.int .i64 z0)) [.undef, .undef]) | _ => fun _ => none
noncomputable def code_165 : Code := (Tryz.f165.body).getD .skip
noncomputable def E_log_Compare (g : C_log_Compare) : Env A := mkE [(56, SS_strings_Compare g.strings_Compare), (77, SS_cmp_Or__int g.cmp_Or__int), (105, SS_cmp_Compare__int g.cmp_Compare__int)] [(2, [0]), (3, [1]), (25, [2])] [] [] [] [] [] [] [] []
theorem sm_log_Compare (g : C_log_Compare) : Same (SS_log_Compare (@log_Compare_ g)) (abody (E_log_Compare g) Tryz.f165 code_165 3 [] [.asis] g.N) := by intro args; unfold SS_log_Compare; split; exact .inr fun R k => (by kernel_rfl); exact .inl fun R k => rfl
theorem ok_log_Compare [Fuel] : Ok 165 (SS_log_Compare (@log_Compare _)) := okF_of std (.cons ok_strings_Compare (.cons ok_cmp_Or__int (.cons ok_cmp_Compare__int .nil))) ⟨rfl, rfl, by kernel_rfl, rfl, rfl, rfl⟩ (sm_log_Compare I_log_Compare) (cuts0 (fun _ => rfl) (by kernel_rfl)) Tryz.func165 (by kernel_rfl) (by kernel_rfl)
noncomputable def Ed_log_Compare (g : C_log_Compare) : Env A := mkED [(56, SS_strings_Compare g.strings_Compare), (77, SS_cmp_Or__int g.cmp_Or__int), (105, SS_cmp_Compare__int g.cmp_Compare__int)] [(2, [0]), (3, [1]), (25, [2])] [] [] [] [] [] [] [] []
theorem smd_log_Compare (g : C_log_Compare) : Same (SS_log_Compare (@log_Compare_ g)) (abody (Ed_log_Compare g) Tryz.f165 code_165 3 [] [.asis] g.N) := by intro args; unfold SS_log_Compare; split; exact .inr fun R k => (by kernel_rfl); exact .inl fun R k => rfl
theorem okd_log_Compare [Fuel] : OkD 165 (SS_log_Compare (@log_Compare _)) := okF_of stdD (.cons okd_strings_Compare (.cons okd_cmp_Or__int (.cons okd_cmp_Compare__int .nil))) ⟨rfl, rfl, by kernel_rfl, rfl, rfl, rfl⟩ (smd_log_Compare I_log_Compare) (cuts0 (fun _ => rfl) (by kernel_rfl)) Tryz.func165 (by kernel_rfl) (by kernel_rfl)
abbrev T_log_CheckLog : Type 1 := List G_Contact → {R : Type} → (Int → Option R) → Option R
structure C_log_CheckLog where
 N : Nat
 log_CheckContact : T_log_CheckContact
 log_Compare : T_log_Compare
def log_CheckLog_L4 (g : C_log_CheckLog) : Nat → List G_Contact → List G_Contact → Int → Int → {R : Type} → (Int → Option R) → Option R → Option R
 | 0, _, _, _, _, _, _, _ => none
 | n + 1, v2, v3, v4, v5, _, e0, e1 => (bif (decide (v5 < v4)) then (get_ v3 v5 fun x10 => (g.log_CheckContact x10 (fun r11 => (bif (r11 != 0) then e0 r11 else (bif (decide (v5 > 0)) then (get_ v2 (w64 (v5 - 1)) fun x12 => (g.log_Compare x12 x10 (fun r13 => (bif (decide (r13 ≥ 0)) then e0 7 else log_CheckLog_L4 g n v2 v3 v4 (w64 (v5 + 1)) e0 e1)))) else log_CheckLog_L4 g n v2 v3 v4 (w64 (v5 + 1)) e0 e1))))) else e1)
def log_CheckLog_ (g : C_log_CheckLog) (a1 : List G_Contact) {R : Type} (k0 : Int → Option R) : Option R :=
 (bif (decide ((a1.length : Int) > 2000)) then k0 2 else (log_CheckLog_L4 g g.N a1 a1 (a1.length : Int) 0 (fun e14 => k0 e14) (k0 0)))
noncomputable def I_log_CheckLog [Fuel] : C_log_CheckLog := ⟨NN, @log_CheckContact _, @log_Compare _⟩
noncomputable def log_CheckLog [Fuel] : T_log_CheckLog := @log_CheckLog_ I_log_CheckLog
def SS_log_CheckLog (g : T_log_CheckLog) : Spec A := fun args => match args with | [.d (.sl 104 a1)] => fun k => g a1 (fun z0 => k (.d (.int .i64 z0)) [.undef]) | _ => fun _ => none
def sh_log_CheckLog_L4 : SSt := mkSh 34 1 [(0, .sl 104), (9, .sl 104), (10, .int .i64), (11, .int .i64)] []
def LP_log_CheckLog_L4 (g : C_log_CheckLog) (n : Nat) : LPT A := fun ps => match ps with | [.d (.sl 104 p1), .d (.sl 104 p2), .d (.int .i64 p3), .d (.int .i64 p4)] => fun K => log_CheckLog_L4 g n p1 p2 p3 p4 (fun z0 => K .ret (mkSt 34 1 [(2, .d (.int .i64 z0))] [])) (K (.exit 0) (mkSt 34 1 [] [])) | _ => fun _ => none
noncomputable def code_116 : Code := (Tryz.f116.body).getD .skip
noncomputable def E_log_CheckLog (g : C_log_CheckLog) : Env A := mkE [(164, SS_log_CheckContact g.log_CheckContact), (165, SS_log_Compare g.log_Compare)] [(4, [0])] [(4, ⟨[0, 9, 10, 11], [], [], []⟩)] [(4, ⟨[2], [], [], []⟩)] [(4, pieceOf sh_log_CheckLog_L4 (LP_log_CheckLog_L4 g g.N))] [] [] [] [] []
theorem ct_log_CheckLog [Fuel] : NatTab (E_log_CheckLog I_log_CheckLog).C := ct_of (P := Tryz.prog) (T := T) (.cons ok_log_CheckContact (.cons ok_log_Compare .nil)) (by kernel_rfl)
noncomputable def cb_log_CheckLog_L4 : Code := sub [1, 1, 0, 1, 0, 0] code_116
theorem s_log_CheckLog_L4 (g : C_log_CheckLog) (n : Nat) : StepOk (E_log_CheckLog g) g.N cb_log_CheckLog_L4 sh_log_CheckLog_L4 (LP_log_CheckLog_L4 g) n := by intro ps; unfold LP_log_CheckLog_L4; split; exact .inr fun R K => (by kernel_rfl); exact .inl fun R K => rfl
theorem lf_log_CheckLog_L4 [Fuel] : LoopFine (E_log_CheckLog I_log_CheckLog) NN cb_log_CheckLog_L4 := fine_loop sh_log_CheckLog_L4 (LP_log_CheckLog_L4 I_log_CheckLog) (by kernel_rfl) ct_log_CheckLog (cuts0 (fun _ => rfl) (by kernel_rfl)) (fun ps R K => by unfold LP_log_CheckLog_L4; split <;> (try unfold log_CheckLog_L4) <;> rfl) (s_log_CheckLog_L4 I_log_CheckLog)
theorem sm_log_CheckLog (g : C_log_CheckLog) : Same (SS_log_CheckLog (@log_CheckLog_ g)) (abody (E_log_CheckLog g) Tryz.f116 code_116 1 [] [.asis] g.N) := by intro args; unfold SS_log_CheckLog; split; exact .inr fun R k => (by kernel_rfl); exact .inl fun R k => rfl
theorem ok_log_CheckLog [Fuel] : Ok 116 (SS_log_CheckLog (@log_CheckLog _)) := okF_of std (.cons ok_log_CheckContact (.cons ok_log_Compare .nil)) ⟨rfl, rfl, by kernel_rfl, rfl, rfl, rfl⟩ (sm_log_CheckLog I_log_CheckLog) (cutsL (fun _ => rfl) (.cons lf_log_CheckLog_L4 .nil) (by kernel_rfl)) Tryz.func116 (by kernel_rfl) (by kernel_rfl)
abbrev T_log_dupes : Type 1 := List G_Contact → {R : Type} → (List Int → Option R) → Option R
structure C_log_dupes where
 N : Nat
 call_BaseOf : T_call_BaseOf
def log_dupes_L4 (g : C_log_dupes) : Nat → List G_Contact → Int → Int → List (G_log_worked × Bool) → List Int → {R : Type} → (List Int → Option R) → Option R
 | 0, _, _, _, _, _, _, _ => none
 | n + 1, v2, v3, v4, v5, v6, _, e0 => (bif (decide (v4 < v3)) then (get_ v2 v4 fun x9 => (g.call_BaseOf x9.f_Call (fun r10 => (bif ((mget_log_worked_bool (⟨r10, x9.f_Band, x9.f_Mode⟩ : G_log_worked) v5).getD false) then (bif (decide ((v6.length + [v4].length) * 8 ≤ roomBytes')) then log_dupes_L4 g n v2 v3 (w64 (v4 + 1)) (mset_log_worked_bool (⟨r10, x9.f_Band, x9.f_Mode⟩ : G_log_worked) true v5) (v6 ++ [v4]) e0 else none) else log_dupes_L4 g n v2 v3 (w64 (v4 + 1)) (mset_log_worked_bool (⟨r10, x9.f_Band, x9.f_Mode⟩ : G_log_worked) true v5) v6 e0)))) else e0 v6)
def log_dupes_ (g : C_log_dupes) (a1 : List G_Contact) {R : Type} (k0 : List Int → Option R) : Option R :=
 (log_dupes_L4 g g.N a1 (a1.length : Int) 0 [] [] (fun e11 => k0 e11))
noncomputable def I_log_dupes [Fuel] : C_log_dupes := ⟨NN, @call_BaseOf _⟩
noncomputable def log_dupes [Fuel] : T_log_dupes := @log_dupes_ I_log_dupes
def SS_log_dupes (g : T_log_dupes) : Spec A := fun args => match args with | [.d (.sl 104 a1)] => fun k => g a1 (fun z0 => k (.arr 3 z0) [.undef]) | _ => fun _ => none
def sh_log_dupes_L4 : SSt := mkSh 35 6 [(3, .mp 0), (4, .own 3 1), (9, .sl 104), (10, .int .i64), (11, .int .i64)] [(0, .mp 211 4), (1, .row 3)]
def LP_log_dupes_L4 (g : C_log_dupes) (n : Nat) : LPT A := fun ps => match ps with | [.d (.sl 104 p1), .d (.int .i64 p2), .d (.int .i64 p3), .mp 211 4 p4, .d (.sl 3 p5)] => fun K => log_dupes_L4 g n p1 p2 p3 p4 p5 (fun z0 => K (.exit 0) (mkSt 35 6 [(4, .own 3 1)] [(1, some (.row 3 z0))])) | _ => fun _ => none
noncomputable def code_117 : Code := (Tryz.f117.body).getD .skip
noncomputable def E_log_dupes (g : C_log_dupes) : Env A := mkE [(99, SS_call_BaseOf g.call_BaseOf)] [(6, [2]), (7, [3]), (8, [0]), (29, [4]), (30, [5])] [(4, ⟨[3, 4, 9, 10, 11], [(4, 3, 1)], [0], []⟩)] [(4, ⟨[4], [], [1], []⟩)] [(4, pieceOf sh_log_dupes_L4 (LP_log_dupes_L4 g g.N))] [] [] [] [] []
theorem ct_log_dupes [Fuel] : NatTab (E_log_dupes I_log_dupes).C := ct_of (P := Tryz.prog) (T := T) (.cons ok_call_BaseOf .nil) (by kernel_rfl)
noncomputable def cb_log_dupes_L4 : Code := sub [1, 1, 1, 0, 1, 0, 0] code_117
theorem s_log_dupes_L4 (g : C_log_dupes) (n : Nat) : StepOk (E_log_dupes g) g.N cb_log_dupes_L4 sh_log_dupes_L4 (LP_log_dupes_L4 g) n := by intro ps; unfold LP_log_dupes_L4; split; exact .inr fun R K => (by kernel_rfl); exact .inl fun R K => rfl
theorem lf_log_dupes_L4 [Fuel] : LoopFine (E_log_dupes I_log_dupes) NN cb_log_dupes_L4 := fine_loop sh_log_dupes_L4 (LP_log_dupes_L4 I_log_dupes) (by kernel_rfl) ct_log_dupes (cuts0 (fun _ => rfl) (by kernel_rfl)) (fun ps R K => by unfold LP_log_dupes_L4; split <;> (try unfold log_dupes_L4) <;> rfl) (s_log_dupes_L4 I_log_dupes)
theorem sm_log_dupes (g : C_log_dupes) : Same (SS_log_dupes (@log_dupes_ g)) (abody (E_log_dupes g) Tryz.f117 code_117 6 [] [.arr 3] g.N) := by intro args; unfold SS_log_dupes; split; exact .inr fun R k => (by kernel_rfl); exact .inl fun R k => rfl
theorem ok_log_dupes [Fuel] : Ok 117 (SS_log_dupes (@log_dupes _)) := okF_of std (.cons ok_call_BaseOf .nil) ⟨rfl, rfl, by kernel_rfl, rfl, rfl, rfl⟩ (sm_log_dupes I_log_dupes) (cutsL (fun _ => rfl) (.cons lf_log_dupes_L4 .nil) (by kernel_rfl)) Tryz.func117 (by kernel_rfl) (by kernel_rfl)
abbrev T_log_Dupes : Type 1 := List G_Contact → {R : Type} → (List Int → Int → Option R) → Option R
structure C_log_Dupes where
 N : Nat
 log_CheckLog : T_log_CheckLog
 log_dupes : T_log_dupes
def log_Dupes_ (g : C_log_Dupes) (a1 : List G_Contact) {R : Type} (k0 : List Int → Int → Option R) : Option R :=
 (g.log_CheckLog a1 (fun r2 => (bif (r2 != 0) then k0 [] r2 else (g.log_dupes a1 (fun r3 => k0 r3 0)))))
noncomputable def I_log_Dupes [Fuel] : C_log_Dupes := ⟨NN, @log_CheckLog _, @log_dupes _⟩
noncomputable def log_Dupes [Fuel] : T_log_Dupes := @log_Dupes_ I_log_Dupes
def SS_log_Dupes (g : T_log_Dupes) : Spec A := fun args => match args with | [.d (.sl 104 a1)] => fun k => g a1 (fun z0 z1 => k (.tup [.arr 3 z0, .d (.int .i64 z1)]) [.undef]) | _ => fun _ => none
noncomputable def code_57 : Code := (Tryz.f57.body).getD .skip
noncomputable def E_log_Dupes (g : C_log_Dupes) : Env A := mkE [(116, SS_log_CheckLog g.log_CheckLog), (117, SS_log_dupes g.log_dupes)] [(11, [0])] [] [] [] [] [] [] [] []
theorem sm_log_Dupes (g : C_log_Dupes) : Same (SS_log_Dupes (@log_Dupes_ g)) (abody (E_log_Dupes g) Tryz.f57 code_57 1 [] [.arr 3, .asis] g.N) := by intro args; unfold SS_log_Dupes; split; exact .inr fun R k => (by kernel_rfl); exact .inl fun R k => rfl
theorem ok_log_Dupes [Fuel] : Ok 57 (SS_log_Dupes (@log_Dupes _)) := okF_of std (.cons ok_log_CheckLog (.cons ok_log_dupes .nil)) ⟨rfl, rfl, by kernel_rfl, rfl, rfl, rfl⟩ (sm_log_Dupes I_log_Dupes) (cuts0 (fun _ => rfl) (by kernel_rfl)) Tryz.func57 (by kernel_rfl) (by kernel_rfl)
abbrev T_band_modesFault : Type 1 := List Int → {R : Type} → (Int → Option R) → Option R
structure C_band_modesFault where
 N : Nat
 kit_IsMode : T_kit_IsMode
def band_modesFault_L4 (g : C_band_modesFault) : Nat → List Int → List Int → Int → Int → {R : Type} → (Int → Option R) → Option R → Option R
 | 0, _, _, _, _, _, _, _ => none
 | n + 1, v2, v3, v4, v5, _, e0, e1 => (bif (decide (v5 < v4)) then (get_ v3 v5 fun x9 => (g.kit_IsMode x9 (fun r10 => (bif (!r10) then e0 4 else (bif (decide (v5 > 0)) then (get_ v2 (w64 (v5 - 1)) fun x11 => (bif (decide (x9 ≤ x11)) then e0 7 else band_modesFault_L4 g n v2 v3 v4 (w64 (v5 + 1)) e0 e1)) else band_modesFault_L4 g n v2 v3 v4 (w64 (v5 + 1)) e0 e1))))) else e1)
def band_modesFault_ (g : C_band_modesFault) (a1 : List Int) {R : Type} (k0 : Int → Option R) : Option R :=
 (bif ((a1.length : Int) == 0) then k0 8 else (band_modesFault_L4 g g.N a1 a1 (a1.length : Int) 0 (fun e12 => k0 e12) (k0 0)))
noncomputable def I_band_modesFault [Fuel] : C_band_modesFault := ⟨NN, @kit_IsMode _⟩
noncomputable def band_modesFault [Fuel] : T_band_modesFault := @band_modesFault_ I_band_modesFault
def SS_band_modesFault (g : T_band_modesFault) : Spec A := fun args => match args with | [.d (.sl 3 a1)] => fun k => g a1 (fun z0 => k (.d (.int .i64 z0)) [.undef]) | _ => fun _ => none
def sh_band_modesFault_L4 : SSt := mkSh 30 0 [(0, .sl 3), (8, .sl 3), (9, .int .i64), (10, .int .i64)] []
def LP_band_modesFault_L4 (g : C_band_modesFault) (n : Nat) : LPT A := fun ps => match ps with | [.d (.sl 3 p1), .d (.sl 3 p2), .d (.int .i64 p3), .d (.int .i64 p4)] => fun K => band_modesFault_L4 g n p1 p2 p3 p4 (fun z0 => K .ret (mkSt 30 0 [(2, .d (.int .i64 z0))] [])) (K (.exit 0) (mkSt 30 0 [] [])) | _ => fun _ => none
noncomputable def code_106 : Code := (Tryz.f106.body).getD .skip
noncomputable def E_band_modesFault (g : C_band_modesFault) : Env A := mkE [(50, SS_kit_IsMode g.kit_IsMode)] [] [(4, ⟨[0, 8, 9, 10], [], [], []⟩)] [(4, ⟨[2], [], [], []⟩)] [(4, pieceOf sh_band_modesFault_L4 (LP_band_modesFault_L4 g g.N))] [] [] [] [] []
theorem ct_band_modesFault [Fuel] : NatTab (E_band_modesFault I_band_modesFault).C := ct_of (P := Tryz.prog) (T := T) (.cons ok_kit_IsMode .nil) (by kernel_rfl)
noncomputable def cb_band_modesFault_L4 : Code := sub [1, 1, 0, 1, 0, 0] code_106
theorem s_band_modesFault_L4 (g : C_band_modesFault) (n : Nat) : StepOk (E_band_modesFault g) g.N cb_band_modesFault_L4 sh_band_modesFault_L4 (LP_band_modesFault_L4 g) n := by intro ps; unfold LP_band_modesFault_L4; split; exact .inr fun R K => (by kernel_rfl); exact .inl fun R K => rfl
theorem lf_band_modesFault_L4 [Fuel] : LoopFine (E_band_modesFault I_band_modesFault) NN cb_band_modesFault_L4 := fine_loop sh_band_modesFault_L4 (LP_band_modesFault_L4 I_band_modesFault) (by kernel_rfl) ct_band_modesFault (cuts0 (fun _ => rfl) (by kernel_rfl)) (fun ps R K => by unfold LP_band_modesFault_L4; split <;> (try unfold band_modesFault_L4) <;> rfl) (s_band_modesFault_L4 I_band_modesFault)
theorem sm_band_modesFault (g : C_band_modesFault) : Same (SS_band_modesFault (@band_modesFault_ g)) (abody (E_band_modesFault g) Tryz.f106 code_106 0 [] [.asis] g.N) := by intro args; unfold SS_band_modesFault; split; exact .inr fun R k => (by kernel_rfl); exact .inl fun R k => rfl
theorem ok_band_modesFault [Fuel] : Ok 106 (SS_band_modesFault (@band_modesFault _)) := okF_of std (.cons ok_kit_IsMode .nil) ⟨rfl, rfl, by kernel_rfl, rfl, rfl, rfl⟩ (sm_band_modesFault I_band_modesFault) (cutsL (fun _ => rfl) (.cons lf_band_modesFault_L4 .nil) (by kernel_rfl)) Tryz.func106 (by kernel_rfl) (by kernel_rfl)
abbrev T_kit_IsTime : Type 1 := G_Window → {R : Type} → (Bool → Option R) → Option R
def kit_IsTime_ (g : Nat) (a1 : G_Window) {R : Type} (k0 : Bool → Option R) : Option R :=
 (bif (decide (a1.f_From ≥ 0)) then (bif (decide (a1.f_From < a1.f_To)) then k0 (decide (a1.f_To ≤ 345686400000)) else k0 false) else k0 false)
noncomputable def kit_IsTime [Fuel] : T_kit_IsTime := @kit_IsTime_ NN
def SS_kit_IsTime (g : T_kit_IsTime) : Spec A := fun args => match args with | [.agg [.d (.int .i64 a1), .d (.int .i64 a2)]] => fun k => g ⟨a1, a2⟩ (fun z0 => k (.d (.bool z0)) [.undef]) | _ => fun _ => none
noncomputable def code_107 : Code := (Tryz.f107.body).getD .skip
noncomputable def E_kit_IsTime (g : Nat) : Env A := mkE [] [(1, [0])] [] [] [] [] [] [] [] []
theorem sm_kit_IsTime (g : Nat) : Same (SS_kit_IsTime (@kit_IsTime_ g)) (abody (E_kit_IsTime g) Tryz.f107 code_107 1 [] [.asis] g) := by intro args; unfold SS_kit_IsTime; split; exact .inr fun R k => (by kernel_rfl); exact .inl fun R k => rfl
theorem ok_kit_IsTime [Fuel] : Ok 107 (SS_kit_IsTime (@kit_IsTime _)) := okF_of std .nil ⟨rfl, rfl, by kernel_rfl, rfl, rfl, rfl⟩ (sm_kit_IsTime NN) (cuts0 (fun _ => rfl) (by kernel_rfl)) Tryz.func107 (by kernel_rfl) (by kernel_rfl)
abbrev T_band_compareSegments : Type 1 := G_Segment → G_Segment → {R : Type} → (Int → Option R) → Option R
structure C_band_compareSegments where
 N : Nat
 strings_Compare : T_strings_Compare
 cmp_Or__int : T_cmp_Or__int
 cmp_Compare__int : T_cmp_Compare__int
def band_compareSegments_ (g : C_band_compareSegments) (a1 a2 : G_Segment) {R : Type} (k0 : Int → Option R) : Option R :=
 (g.strings_Compare a1.f_Class a2.f_Class (fun r3 => (g.cmp_Compare__int a1.f_Low a2.f_Low (fun r4 => (g.cmp_Compare__int a1.f_High a2.f_High (fun r5 => (g.cmp_Compare__int a1.f_Time.f_From a2.f_Time.f_From (fun r6 => (g.cmp_Or__int [r3, r4, r5, r6] (fun r7 => k0 r7))))))))))
noncomputable def I_band_compareSegments [Fuel] : C_band_compareSegments := ⟨NN, @strings_Compare _, @cmp_Or__int _, @cmp_Compare__int _⟩
noncomputable def band_compareSegments [Fuel] : T_band_compareSegments := @band_compareSegments_ I_band_compareSegments
def SS_band_compareSegments (g : T_band_compareSegments) : Spec A := fun args => match args with | [.agg [.d (.str a1), .d (.int .i64 a2), .d (.int .i64 a3), .d (.sl 3 a4), .d (.int .i64 a5), .d (.int .i64 a6)], .agg [.d (.str a7), .d (.int .i64 a8), .d (.int .i64 a9), .d (.sl 3 a10), .d (.int .i64 a11), .d (.int .i64 a12)]] => fun k => g ⟨a1, a2, a3, a4, ⟨a5, a6⟩⟩ ⟨a7, a8, a9, a10, ⟨a11, a12⟩⟩ (fun z0 => k (.d (.int .i64 z0)) [.undef, .undef]) | _ => fun _ => none
noncomputable def code_108 : Code := (Tryz.f108.body).getD .skip
noncomputable def E_band_compareSegments (g : C_band_compareSegments) : Env A := mkE [(56, SS_strings_Compare g.strings_Compare), (77, SS_cmp_Or__int g.cmp_Or__int), (105, SS_cmp_Compare__int g.cmp_Compare__int)] [(2, [0]), (3, [1]), (27, [2])] [] [] [] [] [] [] [] []
theorem sm_band_compareSegments (g : C_band_compareSegments) : Same (SS_band_compareSegments (@band_compareSegments_ g)) (abody (E_band_compareSegments g) Tryz.f108 code_108 3 [] [.asis] g.N) := by intro args; unfold SS_band_compareSegments; split; exact .inr fun R k => (by kernel_rfl); exact .inl fun R k => rfl
theorem ok_band_compareSegments [Fuel] : Ok 108 (SS_band_compareSegments (@band_compareSegments _)) := okF_of std (.cons ok_strings_Compare (.cons ok_cmp_Or__int (.cons ok_cmp_Compare__int .nil))) ⟨rfl, rfl, by kernel_rfl, rfl, rfl, rfl⟩ (sm_band_compareSegments I_band_compareSegments) (cuts0 (fun _ => rfl) (by kernel_rfl)) Tryz.func108 (by kernel_rfl) (by kernel_rfl)
abbrev T_band_CheckSegments : Type 1 := List G_Segment → {R : Type} → (Int → Option R) → Option R
structure C_band_CheckSegments where
 N : Nat
 kit_IsKey : T_kit_IsKey
 band_modesFault : T_band_modesFault
 kit_IsTime : T_kit_IsTime
 band_compareSegments : T_band_compareSegments
def band_CheckSegments_L4 (g : C_band_CheckSegments) : Nat → List G_Segment → List G_Segment → Int → Int → {R : Type} → (Int → Option R) → Option R → Option R
 | 0, _, _, _, _, _, _, _ => none
 | n + 1, v2, v3, v4, v5, _, e0, e1 => (bif (decide (v5 < v4)) then (get_ v3 v5 fun x12 => (g.kit_IsKey x12.f_Class (fun r13 => (bif (!r13) then e0 5 else (bif (decide (x12.f_Low < 0)) then e0 1 else (bif (decide (x12.f_Low ≥ x12.f_High)) then e0 1 else (bif (decide (x12.f_High > 30000000000)) then e0 1 else (g.band_modesFault x12.f_Modes (fun r14 => (bif (r14 != 0) then e0 r14 else (g.kit_IsTime x12.f_Time (fun r15 => (bif (!r15) then e0 1 else (bif (decide (v5 > 0)) then (get_ v2 (w64 (v5 - 1)) fun x16 => (g.band_compareSegments x16 x12 (fun r17 => (bif (decide (r17 ≥ 0)) then e0 7 else band_CheckSegments_L4 g n v2 v3 v4 (w64 (v5 + 1)) e0 e1)))) else band_CheckSegments_L4 g n v2 v3 v4 (w64 (v5 + 1)) e0 e1)))))))))))))) else e1)
def band_CheckSegments_ (g : C_band_CheckSegments) (a1 : List G_Segment) {R : Type} (k0 : Int → Option R) : Option R :=
 (bif (decide ((a1.length : Int) > 500)) then k0 2 else (band_CheckSegments_L4 g g.N a1 a1 (a1.length : Int) 0 (fun e18 => k0 e18) (k0 0)))
noncomputable def I_band_CheckSegments [Fuel] : C_band_CheckSegments := ⟨NN, @kit_IsKey _, @band_modesFault _, @kit_IsTime _, @band_compareSegments _⟩
noncomputable def band_CheckSegments [Fuel] : T_band_CheckSegments := @band_CheckSegments_ I_band_CheckSegments
def SS_band_CheckSegments (g : T_band_CheckSegments) : Spec A := fun args => match args with | [.d (.sl 93 a1)] => fun k => g a1 (fun z0 => k (.d (.int .i64 z0)) [.undef]) | _ => fun _ => none
def sh_band_CheckSegments_L4 : SSt := mkSh 58 1 [(0, .sl 93), (9, .sl 93), (10, .int .i64), (11, .int .i64)] []
def LP_band_CheckSegments_L4 (g : C_band_CheckSegments) (n : Nat) : LPT A := fun ps => match ps with | [.d (.sl 93 p1), .d (.sl 93 p2), .d (.int .i64 p3), .d (.int .i64 p4)] => fun K => band_CheckSegments_L4 g n p1 p2 p3 p4 (fun z0 => K .ret (mkSt 58 1 [(2, .d (.int .i64 z0))] [])) (K (.exit 0) (mkSt 58 1 [] [])) | _ => fun _ => none
noncomputable def code_48 : Code := (Tryz.f48.body).getD .skip
noncomputable def E_band_CheckSegments (g : C_band_CheckSegments) : Env A := mkE [(49, SS_kit_IsKey g.kit_IsKey), (106, SS_band_modesFault g.band_modesFault), (107, SS_kit_IsTime g.kit_IsTime), (108, SS_band_compareSegments g.band_compareSegments)] [(4, [0])] [(4, ⟨[0, 9, 10, 11], [], [], []⟩)] [(4, ⟨[2], [], [], []⟩)] [(4, pieceOf sh_band_CheckSegments_L4 (LP_band_CheckSegments_L4 g g.N))] [] [] [] [] []
theorem ct_band_CheckSegments [Fuel] : NatTab (E_band_CheckSegments I_band_CheckSegments).C := ct_of (P := Tryz.prog) (T := T) (.cons ok_kit_IsKey (.cons ok_band_modesFault (.cons ok_kit_IsTime (.cons ok_band_compareSegments .nil)))) (by kernel_rfl)
noncomputable def cb_band_CheckSegments_L4 : Code := sub [1, 1, 0, 1, 0, 0] code_48
theorem s_band_CheckSegments_L4 (g : C_band_CheckSegments) (n : Nat) : StepOk (E_band_CheckSegments g) g.N cb_band_CheckSegments_L4 sh_band_CheckSegments_L4 (LP_band_CheckSegments_L4 g) n := by intro ps; unfold LP_band_CheckSegments_L4; split; exact .inr fun R K => (by kernel_rfl); exact .inl fun R K => rfl
theorem lf_band_CheckSegments_L4 [Fuel] : LoopFine (E_band_CheckSegments I_band_CheckSegments) NN cb_band_CheckSegments_L4 := fine_loop sh_band_CheckSegments_L4 (LP_band_CheckSegments_L4 I_band_CheckSegments) (by kernel_rfl) ct_band_CheckSegments (cuts0 (fun _ => rfl) (by kernel_rfl)) (fun ps R K => by unfold LP_band_CheckSegments_L4; split <;> (try unfold band_CheckSegments_L4) <;> rfl) (s_band_CheckSegments_L4 I_band_CheckSegments)
theorem sm_band_CheckSegments (g : C_band_CheckSegments) : Same (SS_band_CheckSegments (@band_CheckSegments_ g)) (abody (E_band_CheckSegments g) Tryz.f48 code_48 1 [] [.asis] g.N) := by intro args; unfold SS_band_CheckSegments; split; exact .inr fun R k => (by kernel_rfl); exact .inl fun R k => rfl
theorem ok_band_CheckSegments [Fuel] : Ok 48 (SS_band_CheckSegments (@band_CheckSegments _)) := okF_of std (.cons ok_kit_IsKey (.cons ok_band_modesFault (.cons ok_kit_IsTime (.cons ok_band_compareSegments .nil)))) ⟨rfl, rfl, by kernel_rfl, rfl, rfl, rfl⟩ (sm_band_CheckSegments I_band_CheckSegments) (cutsL (fun _ => rfl) (.cons lf_band_CheckSegments_L4 .nil) (by kernel_rfl)) Tryz.func48 (by kernel_rfl) (by kernel_rfl)
abbrev T_band_used : Type 1 := Int → Int → {R : Type} → (G_Row → Option R) → Option R
def band_used_ (g : Nat) (a1 a2 : Int) {R : Type} (k0 : G_Row → Option R) : Option R :=
 k0 (⟨(w64 (a1 - (w64 (Int.tdiv a2 2)))), (w64 ((w64 (a1 - (w64 (Int.tdiv a2 2)))) + a2))⟩ : G_Row)
noncomputable def band_used [Fuel] : T_band_used := @band_used_ NN
def SS_band_used (g : T_band_used) : Spec A := fun args => match args with | [.d (.int .i64 a1), .d (.int .i64 a2)] => fun k => g a1 a2 (fun z0 => k (.agg [.d (.int .i64 z0.f_From), .d (.int .i64 z0.f_To)]) [.undef, .undef]) | _ => fun _ => none
noncomputable def code_61 : Code := (Tryz.f61.body).getD .skip
noncomputable def E_band_used (g : Nat) : Env A := mkE [] [(4, [0])] [] [] [] [] [] [] [] []
theorem sm_band_used (g : Nat) : Same (SS_band_used (@band_used_ g)) (abody (E_band_used g) Tryz.f61 code_61 1 [] [.asis] g) := by intro args; unfold SS_band_used; split; exact .inr fun R k => (by kernel_rfl); exact .inl fun R k => rfl
theorem ok_band_used [Fuel] : Ok 61 (SS_band_used (@band_used _)) := okF_of std .nil ⟨rfl, rfl, by kernel_rfl, rfl, rfl, rfl⟩ (sm_band_used NN) (cuts0 (fun _ => rfl) (by kernel_rfl)) Tryz.func61 (by kernel_rfl) (by kernel_rfl)
abbrev T_kit_Has : Type 1 := G_Window → Int → {R : Type} → (Bool → Option R) → Option R
def kit_Has_ (g : Nat) (a1 : G_Window) (a2 : Int) {R : Type} (k0 : Bool → Option R) : Option R :=
 (bif (decide (a1.f_From ≤ a2)) then k0 (decide (a2 < a1.f_To)) else k0 false)
noncomputable def kit_Has [Fuel] : T_kit_Has := @kit_Has_ NN
def SS_kit_Has (g : T_kit_Has) : Spec A := fun args => match args with | [.agg [.d (.int .i64 a1), .d (.int .i64 a2)], .d (.int .i64 a3)] => fun k => g ⟨a1, a2⟩ a3 (fun z0 => k (.d (.bool z0)) [.undef, .undef]) | _ => fun _ => none
noncomputable def code_112 : Code := (Tryz.f112.body).getD .skip
noncomputable def E_kit_Has (g : Nat) : Env A := mkE [] [(2, [0])] [] [] [] [] [] [] [] []
theorem sm_kit_Has (g : Nat) : Same (SS_kit_Has (@kit_Has_ g)) (abody (E_kit_Has g) Tryz.f112 code_112 1 [] [.asis] g) := by intro args; unfold SS_kit_Has; split; exact .inr fun R k => (by kernel_rfl); exact .inl fun R k => rfl
theorem ok_kit_Has [Fuel] : Ok 112 (SS_kit_Has (@kit_Has _)) := okF_of std .nil ⟨rfl, rfl, by kernel_rfl, rfl, rfl, rfl⟩ (sm_kit_Has NN) (cuts0 (fun _ => rfl) (by kernel_rfl)) Tryz.func112 (by kernel_rfl) (by kernel_rfl)
end Go.Am
