/- The functions of the program as Lean functions, each shown to be what the code computes, part 4. No condition: lemmas for the claim. -/
import Derived.Test.YtnkoiigdcbjenaaGreatDoorF0
import Derived.Test.YtnkoiigdcbjenaaGreatDoorFSh
import Derived.Test.YtnkoiigdcbjenaaGreatDoorF2
import Derived.Test.YtnkoiigdcbjenaaGreatDoorF3
set_option linter.unusedVariables false
set_option maxRecDepth 100000
namespace Go.Am
open Go Go.Proofs
abbrev T_club_cardsFault : Type 1 := List G_Card → Int → {R : Type} → (Int → Option R) → Option R
structure C_club_cardsFault where
  N : Nat
  club_CheckCards : T_club_CheckCards
  kit_IsMoment : T_kit_IsMoment
def club_cardsFault_ (g : C_club_cardsFault) (a1 : List G_Card) (a2 : Int) {R : Type} (k0 : Int → Option R) : Option R :=
  (g.club_CheckCards a1 (fun r3 => (bif (r3 != 0) then k0 r3 else (g.kit_IsMoment a2 (fun r4 => (bif (!r4) then k0 1 else k0 0))))))
noncomputable def I_club_cardsFault [Fuel] : C_club_cardsFault := ⟨NN, @club_CheckCards _, @kit_IsMoment _⟩
noncomputable def club_cardsFault [Fuel] : T_club_cardsFault := @club_cardsFault_ I_club_cardsFault
def SS_club_cardsFault (g : T_club_cardsFault) : Spec A := fun args => match args with | [.d (.sl 82 a1), .d (.int .i64 a2)] => fun k => g a1 a2 (fun z0 => k (.d (.int .i64 z0)) [.undef, .undef]) | _ => fun _ => none
noncomputable def code_49 : Code := (Tryz.f49.body).getD .skip
noncomputable def E_club_cardsFault (g : C_club_cardsFault) : Env A := mkE [(53, SS_club_CheckCards g.club_CheckCards), (96, SS_kit_IsMoment g.kit_IsMoment)] [] [] [] [] [] [] [] [] []
theorem sm_club_cardsFault (g : C_club_cardsFault) : Same (SS_club_cardsFault (@club_cardsFault_ g)) (abody (E_club_cardsFault g) Tryz.f49 code_49 0 [] [.asis] g.N) := by intro args; unfold SS_club_cardsFault; split; exact .inr fun R k => (by kernel_rfl); exact .inl fun R k => rfl
theorem ok_club_cardsFault [Fuel] : Ok 49 (SS_club_cardsFault (@club_cardsFault _)) := okF_of std (.cons ok_club_CheckCards (.cons ok_kit_IsMoment .nil)) ⟨rfl, rfl, by kernel_rfl, rfl, rfl⟩ (sm_club_cardsFault I_club_cardsFault) (cuts0 (fun _ => rfl) (by kernel_rfl)) Tryz.func49 (by kernel_rfl) (by kernel_rfl)
abbrev T_call_BaseOf : Type 1 := List UInt8 → {R : Type} → (List UInt8 → Option R) → Option R
structure C_call_BaseOf where
  N : Nat
  call_Parts : T_call_Parts
def call_BaseOf_ (g : C_call_BaseOf) (a1 : List UInt8) {R : Type} (k0 : List UInt8 → Option R) : Option R :=
  (g.call_Parts a1 (fun r2 r3 => k0 r2.f_Base))
noncomputable def I_call_BaseOf [Fuel] : C_call_BaseOf := ⟨NN, @call_Parts _⟩
noncomputable def call_BaseOf [Fuel] : T_call_BaseOf := @call_BaseOf_ I_call_BaseOf
def SS_call_BaseOf (g : T_call_BaseOf) : Spec A := fun args => match args with | [.d (.str a1)] => fun k => g a1 (fun z0 => k (.d (.str z0)) [.undef]) | _ => fun _ => none
noncomputable def code_67 : Code := (Tryz.f67.body).getD .skip
noncomputable def E_call_BaseOf (g : C_call_BaseOf) : Env A := mkE [(108, SS_call_Parts g.call_Parts)] [(3, [0])] [] [] [] [] [] [] [] []
theorem sm_call_BaseOf (g : C_call_BaseOf) : Same (SS_call_BaseOf (@call_BaseOf_ g)) (abody (E_call_BaseOf g) Tryz.f67 code_67 1 [] [.asis] g.N) := by intro args; unfold SS_call_BaseOf; split; exact .inr fun R k => (by kernel_rfl); exact .inl fun R k => rfl
theorem ok_call_BaseOf [Fuel] : Ok 67 (SS_call_BaseOf (@call_BaseOf _)) := okF_of std (.cons ok_call_Parts .nil) ⟨rfl, rfl, by kernel_rfl, rfl, rfl⟩ (sm_call_BaseOf I_call_BaseOf) (cuts0 (fun _ => rfl) (by kernel_rfl)) Tryz.func67 (by kernel_rfl) (by kernel_rfl)
abbrev T_club_contactOf : Type 1 := G_Card → {R : Type} → (G_club_contact → Option R) → Option R
structure C_club_contactOf where
  N : Nat
  call_BaseOf : T_call_BaseOf
def club_contactOf_ (g : C_club_contactOf) (a1 : G_Card) {R : Type} (k0 : G_club_contact → Option R) : Option R :=
  (g.call_BaseOf a1.f_Call (fun r2 => k0 (⟨r2, a1.f_Band, a1.f_Mode⟩ : G_club_contact)))
noncomputable def I_club_contactOf [Fuel] : C_club_contactOf := ⟨NN, @call_BaseOf _⟩
noncomputable def club_contactOf [Fuel] : T_club_contactOf := @club_contactOf_ I_club_contactOf
def SS_club_contactOf (g : T_club_contactOf) : Spec A := fun args => match args with | [.agg [.d (.int .i64 a1), .d (.int .i64 a2), .d (.int .i64 a3), .d (.str a4), .d (.str a5)]] => fun k => g ⟨a1, a2, a3, a4, a5⟩ (fun z0 => k (.agg [.d (.str z0.f_base), .d (.str z0.f_band), .d (.int .i64 z0.f_mode)]) [.undef]) | _ => fun _ => none
noncomputable def code_97 : Code := (Tryz.f97.body).getD .skip
noncomputable def E_club_contactOf (g : C_club_contactOf) : Env A := mkE [(67, SS_call_BaseOf g.call_BaseOf)] [(1, [0]), (2, [1])] [] [] [] [] [] [] [] []
theorem sm_club_contactOf (g : C_club_contactOf) : Same (SS_club_contactOf (@club_contactOf_ g)) (abody (E_club_contactOf g) Tryz.f97 code_97 2 [] [.asis] g.N) := by intro args; unfold SS_club_contactOf; split; exact .inr fun R k => (by kernel_rfl); exact .inl fun R k => rfl
theorem ok_club_contactOf [Fuel] : Ok 97 (SS_club_contactOf (@club_contactOf _)) := okF_of std (.cons ok_call_BaseOf .nil) ⟨rfl, rfl, by kernel_rfl, rfl, rfl⟩ (sm_club_contactOf I_club_contactOf) (cuts0 (fun _ => rfl) (by kernel_rfl)) Tryz.func97 (by kernel_rfl) (by kernel_rfl)
abbrev T_club_confirmed : Type 1 := List G_Card → Int → {R : Type} → (List G_Card → Option R) → Option R
structure C_club_confirmed where
  N : Nat
  club_contactOf : T_club_contactOf
def club_confirmed_L4 (g : C_club_confirmed) : Nat → Int → List G_Card → Int → Int → List (G_club_contact × Bool) → List G_Card → {R : Type} → (List G_Card → Option R) → Option R
  | 0, _, _, _, _, _, _, _, _ => none
  | n + 1, v3, v4, v5, v6, v7, v8, _, e0 => (bif (decide (v6 < v5)) then (get_ v4 v6 fun x11 => (g.club_contactOf x11 (fun r12 => (bif (decide (x11.f_At ≤ v3)) then (bif (x11.f_Kind == 2) then (bif (!((mget_club_contact_bool r12 v7).getD false)) then (bif (decide ((v8.length + [x11].length) * 56 ≤ roomBytes')) then club_confirmed_L4 g n v3 v4 v5 (w64 (v6 + 1)) (mset_club_contact_bool r12 true v7) (v8 ++ [x11]) e0 else none) else club_confirmed_L4 g n v3 v4 v5 (w64 (v6 + 1)) v7 v8 e0) else club_confirmed_L4 g n v3 v4 v5 (w64 (v6 + 1)) v7 v8 e0) else club_confirmed_L4 g n v3 v4 v5 (w64 (v6 + 1)) v7 v8 e0)))) else e0 v8)
def club_confirmed_ (g : C_club_confirmed) (a1 : List G_Card) (a2 : Int) {R : Type} (k0 : List G_Card → Option R) : Option R :=
  (club_confirmed_L4 g g.N a2 a1 (a1.length : Int) 0 [] [] (fun e13 => k0 e13))
noncomputable def I_club_confirmed [Fuel] : C_club_confirmed := ⟨NN, @club_contactOf _⟩
noncomputable def club_confirmed [Fuel] : T_club_confirmed := @club_confirmed_ I_club_confirmed
def SS_club_confirmed (g : T_club_confirmed) : Spec A := fun args => match args with | [.d (.sl 82 a1), .d (.int .i64 a2)] => fun k => g a1 a2 (fun z0 => k (.arr 82 z0) [.undef, .undef]) | _ => fun _ => none
def sh_club_confirmed_L4 : SSt := mkSh 42 6 [(1, .int .i64), (5, .mp 0), (6, .own 82 1), (11, .sl 82), (12, .int .i64), (13, .int .i64)] [(0, .mp 141 4), (1, .row 82)]
def LP_club_confirmed_L4 (g : C_club_confirmed) (n : Nat) : LPT A := fun ps => match ps with | [.d (.int .i64 p1), .d (.sl 82 p2), .d (.int .i64 p3), .d (.int .i64 p4), .mp 141 4 p5, .d (.sl 82 p6)] => fun K => club_confirmed_L4 g n p1 p2 p3 p4 p5 p6 (fun z0 => K (.exit 0) (mkSt 42 6 [(6, .own 82 1)] [(1, some (.row 82 z0))])) | _ => fun _ => none
noncomputable def code_50 : Code := (Tryz.f50.body).getD .skip
noncomputable def E_club_confirmed (g : C_club_confirmed) : Env A := mkE [(97, SS_club_contactOf g.club_contactOf)] [(8, [2]), (9, [3]), (10, [0]), (38, [4]), (39, [5])] [(4, ⟨[1, 5, 6, 11, 12, 13], [(6, 82, 1)], [0], []⟩)] [(4, ⟨[6], [], [1], []⟩)] [(4, pieceOf sh_club_confirmed_L4 (LP_club_confirmed_L4 g g.N))] [] [] [] [] []
theorem ct_club_confirmed [Fuel] : NatTab (E_club_confirmed I_club_confirmed).C := ct_of (P := Tryz.prog) (T := T) (.cons ok_club_contactOf .nil) (by kernel_rfl)
noncomputable def cb_club_confirmed_L4 : Code := sub [1, 1, 1, 0, 1, 0, 0] code_50
theorem s_club_confirmed_L4 (g : C_club_confirmed) (n : Nat) : StepOk (E_club_confirmed g) g.N cb_club_confirmed_L4 sh_club_confirmed_L4 (LP_club_confirmed_L4 g) n := by intro ps; unfold LP_club_confirmed_L4; split; exact .inr fun R K => (by kernel_rfl); exact .inl fun R K => rfl
theorem lf_club_confirmed_L4 [Fuel] : LoopFine (E_club_confirmed I_club_confirmed) NN cb_club_confirmed_L4 := fine_loop sh_club_confirmed_L4 (LP_club_confirmed_L4 I_club_confirmed) (by kernel_rfl) ct_club_confirmed (cuts0 (fun _ => rfl) (by kernel_rfl)) (fun ps R K => by unfold LP_club_confirmed_L4; split <;> (try unfold club_confirmed_L4) <;> rfl) (s_club_confirmed_L4 I_club_confirmed)
theorem sm_club_confirmed (g : C_club_confirmed) : Same (SS_club_confirmed (@club_confirmed_ g)) (abody (E_club_confirmed g) Tryz.f50 code_50 6 [] [.arr 82] g.N) := by intro args; unfold SS_club_confirmed; split; exact .inr fun R k => (by kernel_rfl); exact .inl fun R k => rfl
theorem ok_club_confirmed [Fuel] : Ok 50 (SS_club_confirmed (@club_confirmed _)) := okF_of std (.cons ok_club_contactOf .nil) ⟨rfl, rfl, by kernel_rfl, rfl, rfl⟩ (sm_club_confirmed I_club_confirmed) (cutsL (fun _ => rfl) (.cons lf_club_confirmed_L4 .nil) (by kernel_rfl)) Tryz.func50 (by kernel_rfl) (by kernel_rfl)
abbrev T_club_counted : Type 1 := G_Award → G_club_contact → {R : Type} → (G_club_contact → Option R) → Option R
def club_counted_ (g : Nat) (a1 : G_Award) (a2 : G_club_contact) {R : Type} (k0 : G_club_contact → Option R) : Option R :=
  (bif (a1.f_Count == 1) then (bif (a1.f_Count == 1) then k0 (⟨a2.f_base, [], 0⟩ : G_club_contact) else (bif (a1.f_Count == 2) then k0 (⟨a2.f_base, [], 0⟩ : G_club_contact) else k0 (⟨a2.f_base, [], a2.f_mode⟩ : G_club_contact))) else (bif (a1.f_Count == 3) then (bif (a1.f_Count == 1) then k0 (⟨a2.f_base, [], 0⟩ : G_club_contact) else (bif (a1.f_Count == 2) then k0 (⟨a2.f_base, [], 0⟩ : G_club_contact) else k0 (⟨a2.f_base, [], a2.f_mode⟩ : G_club_contact))) else (bif (a1.f_Count == 1) then k0 (⟨a2.f_base, a2.f_band, 0⟩ : G_club_contact) else (bif (a1.f_Count == 2) then k0 (⟨a2.f_base, a2.f_band, 0⟩ : G_club_contact) else k0 a2))))
noncomputable def club_counted [Fuel] : T_club_counted := @club_counted_ NN
def SS_club_counted (g : T_club_counted) : Spec A := fun args => match args with | [.agg [.d (.str a1), .d (.str a2), .d (.int .i64 a3), .d (.int .i64 a4)], .agg [.d (.str a5), .d (.str a6), .d (.int .i64 a7)]] => fun k => g ⟨a1, a2, a3, a4⟩ ⟨a5, a6, a7⟩ (fun z0 => k (.agg [.d (.str z0.f_base), .d (.str z0.f_band), .d (.int .i64 z0.f_mode)]) [.undef, .undef]) | _ => fun _ => none
noncomputable def code_98 : Code := (Tryz.f98.body).getD .skip
noncomputable def E_club_counted (g : Nat) : Env A := mkE [] [(2, [0]), (3, [1]), (4, [2])] [] [] [] [] [] [] [] []
theorem sm_club_counted (g : Nat) : Same (SS_club_counted (@club_counted_ g)) (abody (E_club_counted g) Tryz.f98 code_98 3 [] [.asis] g) := by intro args; unfold SS_club_counted; split; exact .inr fun R k => (by kernel_rfl); exact .inl fun R k => rfl
theorem ok_club_counted [Fuel] : Ok 98 (SS_club_counted (@club_counted _)) := okF_of std .nil ⟨rfl, rfl, by kernel_rfl, rfl, rfl⟩ (sm_club_counted NN) (cuts0 (fun _ => rfl) (by kernel_rfl)) Tryz.func98 (by kernel_rfl) (by kernel_rfl)
abbrev T_club_reached : Type 1 := G_Award → List G_Card → {R : Type} → (Int → Int → Option R) → Option R
structure C_club_reached where
  N : Nat
  club_contactOf : T_club_contactOf
  club_counted : T_club_counted
def club_reached_L4 (g : C_club_reached) : Nat → Int → List G_Card → Int → Int → G_Award → List (G_club_contact × Bool) → {R : Type} → (Int → List (G_club_contact × Bool) → Option R) → Option R
  | 0, _, _, _, _, _, _, _, _ => none
  | n + 1, v3, v4, v5, v6, v7, v8, _, e0 => (bif (decide (v6 < v5)) then (get_ v4 v6 fun x14 => (bif (!(v7.f_Band == [])) then (bif (!(x14.f_Band == v7.f_Band)) then club_reached_L4 g n v3 v4 v5 (w64 (v6 + 1)) v7 v8 e0 else (g.club_contactOf x14 (fun r15 => (g.club_counted v7 r15 (fun r16 => (bif (decide (((mset_club_contact_bool r16 true v8).length : Int) ≥ v7.f_Need)) then (bif (decide (v3 < 0)) then club_reached_L4 g n x14.f_At v4 v5 (w64 (v6 + 1)) v7 (mset_club_contact_bool r16 true v8) e0 else club_reached_L4 g n v3 v4 v5 (w64 (v6 + 1)) v7 (mset_club_contact_bool r16 true v8) e0) else club_reached_L4 g n v3 v4 v5 (w64 (v6 + 1)) v7 (mset_club_contact_bool r16 true v8) e0)))))) else (g.club_contactOf x14 (fun r17 => (g.club_counted v7 r17 (fun r18 => (bif (decide (((mset_club_contact_bool r18 true v8).length : Int) ≥ v7.f_Need)) then (bif (decide (v3 < 0)) then club_reached_L4 g n x14.f_At v4 v5 (w64 (v6 + 1)) v7 (mset_club_contact_bool r18 true v8) e0 else club_reached_L4 g n v3 v4 v5 (w64 (v6 + 1)) v7 (mset_club_contact_bool r18 true v8) e0) else club_reached_L4 g n v3 v4 v5 (w64 (v6 + 1)) v7 (mset_club_contact_bool r18 true v8) e0))))))) else e0 v3 v8)
def club_reached_ (g : C_club_reached) (a1 : G_Award) (a2 : List G_Card) {R : Type} (k0 : Int → Int → Option R) : Option R :=
  (club_reached_L4 g g.N (-1) a2 (a2.length : Int) 0 a1 [] (fun e19 e20 => k0 (e20.length : Int) e19))
noncomputable def I_club_reached [Fuel] : C_club_reached := ⟨NN, @club_contactOf _, @club_counted _⟩
noncomputable def club_reached [Fuel] : T_club_reached := @club_reached_ I_club_reached
def SS_club_reached (g : T_club_reached) : Spec A := fun args => match args with | [.agg [.d (.str a1), .d (.str a2), .d (.int .i64 a3), .d (.int .i64 a4)], .d (.sl 82 a5)] => fun k => g ⟨a1, a2, a3, a4⟩ a5 (fun z0 z1 => k (.tup [.d (.int .i64 z0), .d (.int .i64 z1)]) [.undef, .undef]) | _ => fun _ => none
def sh_club_reached_L4 : SSt := mkSh 46 3 [(2, .ptr 0 0), (5, .int .i64), (6, .mp 1), (10, .sl 82), (11, .int .i64), (12, .int .i64)] [(0, .box [.str, .str, .int .i64, .int .i64]), (1, .mp 141 4)]
def LP_club_reached_L4 (g : C_club_reached) (n : Nat) : LPT A := fun ps => match ps with | [.d (.int .i64 p1), .d (.sl 82 p2), .d (.int .i64 p3), .d (.int .i64 p4), .d (.str p5), .d (.str p6), .d (.int .i64 p7), .d (.int .i64 p8), .mp 141 4 p9] => fun K => club_reached_L4 g n p1 p2 p3 p4 ⟨p5, p6, p7, p8⟩ p9 (fun z0 z1 => K (.exit 0) (mkSt 46 3 [(5, .d (.int .i64 z0)), (6, .mp 1)] [(1, some (.mp 141 4 z1))])) | _ => fun _ => none
noncomputable def code_51 : Code := (Tryz.f51.body).getD .skip
noncomputable def E_club_reached (g : C_club_reached) : Env A := mkE [(97, SS_club_contactOf g.club_contactOf), (98, SS_club_counted g.club_counted)] [(2, [0]), (8, [2]), (9, [1])] [(4, ⟨[2, 5, 6, 10, 11, 12], [], [0, 1], []⟩)] [(4, ⟨[5, 6], [], [1], []⟩)] [(4, pieceOf sh_club_reached_L4 (LP_club_reached_L4 g g.N))] [] [] [] [] []
theorem ct_club_reached [Fuel] : NatTab (E_club_reached I_club_reached).C := ct_of (P := Tryz.prog) (T := T) (.cons ok_club_contactOf (.cons ok_club_counted .nil)) (by kernel_rfl)
noncomputable def cb_club_reached_L4 : Code := sub [1, 1, 1, 0, 1, 0, 0] code_51
theorem s_club_reached_L4 (g : C_club_reached) (n : Nat) : StepOk (E_club_reached g) g.N cb_club_reached_L4 sh_club_reached_L4 (LP_club_reached_L4 g) n := by intro ps; unfold LP_club_reached_L4; split; exact .inr fun R K => (by kernel_rfl); exact .inl fun R K => rfl
theorem lf_club_reached_L4 [Fuel] : LoopFine (E_club_reached I_club_reached) NN cb_club_reached_L4 := fine_loop sh_club_reached_L4 (LP_club_reached_L4 I_club_reached) (by kernel_rfl) ct_club_reached (cuts0 (fun _ => rfl) (by kernel_rfl)) (fun ps R K => by unfold LP_club_reached_L4; split <;> (try unfold club_reached_L4) <;> rfl) (s_club_reached_L4 I_club_reached)
theorem sm_club_reached (g : C_club_reached) : Same (SS_club_reached (@club_reached_ g)) (abody (E_club_reached g) Tryz.f51 code_51 3 [] [.asis, .asis] g.N) := by intro args; unfold SS_club_reached; split; exact .inr fun R k => (by kernel_rfl); exact .inl fun R k => rfl
theorem ok_club_reached [Fuel] : Ok 51 (SS_club_reached (@club_reached _)) := okF_of std (.cons ok_club_contactOf (.cons ok_club_counted .nil)) ⟨rfl, rfl, by kernel_rfl, rfl, rfl⟩ (sm_club_reached I_club_reached) (cutsL (fun _ => rfl) (.cons lf_club_reached_L4 .nil) (by kernel_rfl)) Tryz.func51 (by kernel_rfl) (by kernel_rfl)
abbrev T_strconv_Itoa : Type 1 := Int → {R : Type} → (List UInt8 → Option R) → Option R
def strconv_Itoa [Fuel] : T_strconv_Itoa := @X_itoa
def SS_strconv_Itoa (g : T_strconv_Itoa) : Spec A := SSX_itoa g
theorem ok_strconv_Itoa [Fuel] : Ok 52 (SS_strconv_Itoa (@strconv_Itoa _)) := ⟨ssx_itoa_sound (fun w h => h) (fun n w h0 h1 ht => Any.strconv_Itoa Tryz.laysM171 n h0 h1 w ht), ssx_itoa_nat, enters_of (fn := Tryz.f52) Tryz.func52 (by kernel_rfl) (by kernel_rfl)⟩
abbrev T_club_Progress : Type 1 := List G_Award → List G_Card → Int → {R : Type} → (List G_Pair → Int → Option R) → Option R
structure C_club_Progress where
  N : Nat
  club_CheckAwards : T_club_CheckAwards
  club_cardsFault : T_club_cardsFault
  club_confirmed : T_club_confirmed
  club_reached : T_club_reached
  strconv_Itoa : T_strconv_Itoa
def club_Progress_L10 (g : C_club_Progress) : Nat → List G_Award → Int → Int → List G_Card → List G_Pair → {R : Type} → (List G_Pair → Option R) → Option R
  | 0, _, _, _, _, _, _, _ => none
  | n + 1, v7, v8, v9, v10, v11, _, e0 => (bif (decide (v9 < v8)) then (get_ v7 v9 fun x17 => (g.club_reached x17 v10 (fun r18 r19 => (g.strconv_Itoa r18 (fun r20 => (bif (strOk r20 [47]) then (g.strconv_Itoa x17.f_Need (fun r21 => (bif (strOk (r20 ++ [47]) r21) then (bif (decide (r19 ≥ 0)) then (bif (strOk ((r20 ++ [47]) ++ r21) [32, 121, 101, 115]) then (bif (decide ((v11.length + [(⟨x17.f_Key, (((r20 ++ [47]) ++ r21) ++ [32, 121, 101, 115])⟩ : G_Pair)].length) * 32 ≤ roomBytes')) then club_Progress_L10 g n v7 v8 (w64 (v9 + 1)) v10 (v11 ++ [(⟨x17.f_Key, (((r20 ++ [47]) ++ r21) ++ [32, 121, 101, 115])⟩ : G_Pair)]) e0 else none) else none) else (bif (decide ((v11.length + [(⟨x17.f_Key, ((r20 ++ [47]) ++ r21)⟩ : G_Pair)].length) * 32 ≤ roomBytes')) then club_Progress_L10 g n v7 v8 (w64 (v9 + 1)) v10 (v11 ++ [(⟨x17.f_Key, ((r20 ++ [47]) ++ r21)⟩ : G_Pair)]) e0 else none)) else none))) else none)))))) else e0 v11)
def club_Progress_ (g : C_club_Progress) (a1 : List G_Award) (a2 : List G_Card) (a3 : Int) {R : Type} (k0 : List G_Pair → Int → Option R) : Option R :=
  (g.club_CheckAwards a1 (fun r4 => (bif (r4 != 0) then k0 [] r4 else (g.club_cardsFault a2 a3 (fun r5 => (bif (r5 != 0) then k0 [] r5 else (g.club_confirmed a2 a3 (fun r6 => (club_Progress_L10 g g.N a1 (a1.length : Int) 0 r6 [] (fun e22 => k0 e22 0))))))))))
noncomputable def I_club_Progress [Fuel] : C_club_Progress := ⟨NN, @club_CheckAwards _, @club_cardsFault _, @club_confirmed _, @club_reached _, @strconv_Itoa _⟩
noncomputable def club_Progress [Fuel] : T_club_Progress := @club_Progress_ I_club_Progress
def SS_club_Progress (g : T_club_Progress) : Spec A := fun args => match args with | [.d (.sl 33 a1), .d (.sl 82 a2), .d (.int .i64 a3)] => fun k => g a1 a2 a3 (fun z0 z1 => k (.tup [.arr 50 z0, .d (.int .i64 z1)]) [.undef, .undef, .undef]) | _ => fun _ => none
def sh_club_Progress_L10 : SSt := mkSh 63 5 [(10, .own 82 0), (11, .own 50 1), (31, .sl 33), (32, .int .i64), (33, .int .i64)] [(0, .row 82), (1, .row 50)]
def LP_club_Progress_L10 (g : C_club_Progress) (n : Nat) : LPT A := fun ps => match ps with | [.d (.sl 33 p1), .d (.int .i64 p2), .d (.int .i64 p3), .d (.sl 82 p4), .d (.sl 50 p5)] => fun K => club_Progress_L10 g n p1 p2 p3 p4 p5 (fun z0 => K (.exit 0) (mkSt 63 5 [(11, .own 50 1)] [(1, some (.row 50 z0))])) | _ => fun _ => none
noncomputable def code_11 : Code := (Tryz.f11.body).getD .skip
noncomputable def E_club_Progress (g : C_club_Progress) : Env A := mkE [(19, SS_club_CheckAwards g.club_CheckAwards), (49, SS_club_cardsFault g.club_cardsFault), (50, SS_club_confirmed g.club_confirmed), (51, SS_club_reached g.club_reached), (52, SS_strconv_Itoa g.strconv_Itoa)] [(13, [2]), (30, [0]), (59, [3]), (60, [4])] [(10, ⟨[10, 11, 31, 32, 33], [(11, 50, 1)], [0], []⟩)] [(10, ⟨[11], [], [1], []⟩)] [(10, pieceOf sh_club_Progress_L10 (LP_club_Progress_L10 g g.N))] [] [] [] [] []
theorem ct_club_Progress [Fuel] : NatTab (E_club_Progress I_club_Progress).C := ct_of (P := Tryz.prog) (T := T) (.cons ok_club_CheckAwards (.cons ok_club_cardsFault (.cons ok_club_confirmed (.cons ok_club_reached (.cons ok_strconv_Itoa .nil))))) (by kernel_rfl)
noncomputable def cb_club_Progress_L10 : Code := sub [1, 1, 1, 1, 1, 0, 1, 0, 0] code_11
theorem s_club_Progress_L10 (g : C_club_Progress) (n : Nat) : StepOk (E_club_Progress g) g.N cb_club_Progress_L10 sh_club_Progress_L10 (LP_club_Progress_L10 g) n := by intro ps; unfold LP_club_Progress_L10; split; exact .inr fun R K => (by kernel_rfl); exact .inl fun R K => rfl
theorem lf_club_Progress_L10 [Fuel] : LoopFine (E_club_Progress I_club_Progress) NN cb_club_Progress_L10 := fine_loop sh_club_Progress_L10 (LP_club_Progress_L10 I_club_Progress) (by kernel_rfl) ct_club_Progress (cuts0 (fun _ => rfl) (by kernel_rfl)) (fun ps R K => by unfold LP_club_Progress_L10; split <;> (try unfold club_Progress_L10) <;> rfl) (s_club_Progress_L10 I_club_Progress)
theorem sm_club_Progress (g : C_club_Progress) : Same (SS_club_Progress (@club_Progress_ g)) (abody (E_club_Progress g) Tryz.f11 code_11 5 [] [.arr 50, .asis] g.N) := by intro args; unfold SS_club_Progress; split; exact .inr fun R k => (by kernel_rfl); exact .inl fun R k => rfl
theorem ok_club_Progress [Fuel] : Ok 11 (SS_club_Progress (@club_Progress _)) := okF_of std (.cons ok_club_CheckAwards (.cons ok_club_cardsFault (.cons ok_club_confirmed (.cons ok_club_reached (.cons ok_strconv_Itoa .nil))))) ⟨rfl, rfl, by kernel_rfl, rfl, rfl⟩ (sm_club_Progress I_club_Progress) (cutsL (fun _ => rfl) (.cons lf_club_Progress_L10 .nil) (by kernel_rfl)) Tryz.func11 (by kernel_rfl) (by kernel_rfl)
abbrev T_club_When : Type 1 := G_Award → List G_Card → {R : Type} → (Int → Bool → Int → Option R) → Option R
structure C_club_When where
  N : Nat
  club_CheckAwards : T_club_CheckAwards
  club_confirmed : T_club_confirmed
  club_reached : T_club_reached
  club_CheckCards : T_club_CheckCards
def club_When_ (g : C_club_When) (a1 : G_Award) (a2 : List G_Card) {R : Type} (k0 : Int → Bool → Int → Option R) : Option R :=
  (g.club_CheckAwards [a1] (fun r3 => (bif (r3 != 0) then k0 0 false r3 else (g.club_CheckCards a2 (fun r4 => (bif (r4 != 0) then k0 0 false r4 else (g.club_confirmed a2 345686400000 (fun r5 => (g.club_reached a1 r5 (fun r6 r7 => k0 (if 0 > r7 then 0 else r7) (decide (r7 ≥ 0)) 0))))))))))
noncomputable def I_club_When [Fuel] : C_club_When := ⟨NN, @club_CheckAwards _, @club_confirmed _, @club_reached _, @club_CheckCards _⟩
noncomputable def club_When [Fuel] : T_club_When := @club_When_ I_club_When
def SS_club_When (g : T_club_When) : Spec A := fun args => match args with | [.agg [.d (.str a1), .d (.str a2), .d (.int .i64 a3), .d (.int .i64 a4)], .d (.sl 82 a5)] => fun k => g ⟨a1, a2, a3, a4⟩ a5 (fun z0 z1 z2 => k (.tup [.d (.int .i64 z0), .d (.bool z1), .d (.int .i64 z2)]) [.undef, .undef]) | _ => fun _ => none
noncomputable def code_12 : Code := (Tryz.f12.body).getD .skip
noncomputable def E_club_When (g : C_club_When) : Env A := mkE [(19, SS_club_CheckAwards g.club_CheckAwards), (50, SS_club_confirmed g.club_confirmed), (51, SS_club_reached g.club_reached), (53, SS_club_CheckCards g.club_CheckCards)] [(2, [0]), (12, [1]), (25, [2])] [] [] [] [] [] [] [] []
theorem sm_club_When (g : C_club_When) : Same (SS_club_When (@club_When_ g)) (abody (E_club_When g) Tryz.f12 code_12 3 [] [.asis, .asis, .asis] g.N) := by intro args; unfold SS_club_When; split; exact .inr fun R k => (by kernel_rfl); exact .inl fun R k => rfl
theorem ok_club_When [Fuel] : Ok 12 (SS_club_When (@club_When _)) := okF_of std (.cons ok_club_CheckAwards (.cons ok_club_confirmed (.cons ok_club_reached (.cons ok_club_CheckCards .nil)))) ⟨rfl, rfl, by kernel_rfl, rfl, rfl⟩ (sm_club_When I_club_When) (cuts0 (fun _ => rfl) (by kernel_rfl)) Tryz.func12 (by kernel_rfl) (by kernel_rfl)
abbrev T_Q_in : Type 1 := Int → Int → Int → {R : Type} → (Bool → Option R) → Option R
def Q_in_ (g : Nat) (a1 a2 a3 : Int) {R : Type} (k0 : Bool → Option R) : Option R :=
  (bif (decide (a2 ≤ a1)) then k0 (decide (a1 ≤ a3)) else k0 false)
noncomputable def Q_in [Fuel] : T_Q_in := @Q_in_ NN
def SS_Q_in (g : T_Q_in) : Spec A := fun args => match args with | [.d (.int .i64 a1), .d (.int .i64 a2), .d (.int .i64 a3)] => fun k => g a1 a2 a3 (fun z0 => k (.d (.bool z0)) [.undef, .undef, .undef]) | _ => fun _ => none
noncomputable def code_55 : Code := (Tryz.f55.body).getD .skip
noncomputable def E_Q_in (g : Nat) : Env A := mkE [] [] [] [] [] [] [] [] [] []
theorem sm_Q_in (g : Nat) : Same (SS_Q_in (@Q_in_ g)) (abody (E_Q_in g) Tryz.f55 code_55 0 [] [.asis] g) := by intro args; unfold SS_Q_in; split; exact .inr fun R k => (by kernel_rfl); exact .inl fun R k => rfl
theorem ok_Q_in [Fuel] : Ok 55 (SS_Q_in (@Q_in _)) := okF_of std .nil ⟨rfl, rfl, by kernel_rfl, rfl, rfl⟩ (sm_Q_in NN) (cuts0 (fun _ => rfl) (by kernel_rfl)) Tryz.func55 (by kernel_rfl) (by kernel_rfl)
abbrev T_Q_only : Type 1 := List UInt8 → List UInt8 → {R : Type} → (Bool → Option R) → Option R
structure C_Q_only where
  N : Nat
  strings_IndexByte : T_strings_IndexByte
def Q_only_L2 (g : C_Q_only) : Nat → List UInt8 → List UInt8 → Int → Int → {R : Type} → (Bool → Option R) → Option R → Option R
  | 0, _, _, _, _, _, _, _ => none
  | n + 1, v3, v4, v5, v6, _, e0, e1 => (bif (decide (v6 < v5)) then (get_ v3 v6 fun x9 => (g.strings_IndexByte v4 (x9.toNat : Int) (fun r10 => (bif (decide (r10 < 0)) then e0 false else Q_only_L2 g n v3 v4 v5 (w64 (v6 + 1)) e0 e1)))) else e1)
def Q_only_ (g : C_Q_only) (a1 a2 : List UInt8) {R : Type} (k0 : Bool → Option R) : Option R :=
  (Q_only_L2 g g.N a1 a2 (a1.length : Int) 0 (fun e11 => k0 e11) (k0 true))
noncomputable def I_Q_only [Fuel] : C_Q_only := ⟨NN, @strings_IndexByte _⟩
noncomputable def Q_only [Fuel] : T_Q_only := @Q_only_ I_Q_only
def SS_Q_only (g : T_Q_only) : Spec A := fun args => match args with | [.d (.str a1), .d (.str a2)] => fun k => g a1 a2 (fun z0 => k (.d (.bool z0)) [.undef, .undef]) | _ => fun _ => none
def sh_Q_only_L2 : SSt := mkSh 18 0 [(0, .str), (1, .str), (7, .int .i64), (8, .int .i64)] []
def LP_Q_only_L2 (g : C_Q_only) (n : Nat) : LPT A := fun ps => match ps with | [.d (.str p1), .d (.str p2), .d (.int .i64 p3), .d (.int .i64 p4)] => fun K => Q_only_L2 g n p1 p2 p3 p4 (fun z0 => K .ret (mkSt 18 0 [(4, .d (.bool z0))] [])) (K (.exit 0) (mkSt 18 0 [] [])) | _ => fun _ => none
noncomputable def code_102 : Code := (Tryz.f102.body).getD .skip
noncomputable def E_Q_only (g : C_Q_only) : Env A := mkE [(119, SS_strings_IndexByte g.strings_IndexByte)] [] [(2, ⟨[0, 1, 7, 8], [], [], []⟩)] [(2, ⟨[4], [], [], []⟩)] [(2, pieceOf sh_Q_only_L2 (LP_Q_only_L2 g g.N))] [] [] [] [] []
theorem ct_Q_only [Fuel] : NatTab (E_Q_only I_Q_only).C := ct_of (P := Tryz.prog) (T := T) (.cons ok_strings_IndexByte .nil) (by kernel_rfl)
noncomputable def cb_Q_only_L2 : Code := sub [1, 0, 1, 0, 0] code_102
theorem s_Q_only_L2 (g : C_Q_only) (n : Nat) : StepOk (E_Q_only g) g.N cb_Q_only_L2 sh_Q_only_L2 (LP_Q_only_L2 g) n := by intro ps; unfold LP_Q_only_L2; split; exact .inr fun R K => (by kernel_rfl); exact .inl fun R K => rfl
theorem lf_Q_only_L2 [Fuel] : LoopFine (E_Q_only I_Q_only) NN cb_Q_only_L2 := fine_loop sh_Q_only_L2 (LP_Q_only_L2 I_Q_only) (by kernel_rfl) ct_Q_only (cuts0 (fun _ => rfl) (by kernel_rfl)) (fun ps R K => by unfold LP_Q_only_L2; split <;> (try unfold Q_only_L2) <;> rfl) (s_Q_only_L2 I_Q_only)
theorem sm_Q_only (g : C_Q_only) : Same (SS_Q_only (@Q_only_ g)) (abody (E_Q_only g) Tryz.f102 code_102 0 [] [.asis] g.N) := by intro args; unfold SS_Q_only; split; exact .inr fun R k => (by kernel_rfl); exact .inl fun R k => rfl
theorem ok_Q_only [Fuel] : Ok 102 (SS_Q_only (@Q_only _)) := okF_of std (.cons ok_strings_IndexByte .nil) ⟨rfl, rfl, by kernel_rfl, rfl, rfl⟩ (sm_Q_only I_Q_only) (cutsL (fun _ => rfl) (.cons lf_Q_only_L2 .nil) (by kernel_rfl)) Tryz.func102 (by kernel_rfl) (by kernel_rfl)
abbrev T_Q_Key : Type 1 := List UInt8 → {R : Type} → (Bool → Option R) → Option R
structure C_Q_Key where
  N : Nat
  Q_in : T_Q_in
  Q_only : T_Q_only
def Q_Key_ (g : C_Q_Key) (a1 : List UInt8) {R : Type} (k0 : Bool → Option R) : Option R :=
  (g.Q_in (a1.length : Int) 1 40 (fun r2 => (bif r2 then (bif (decide (0 ≤ 1) && decide (1 ≤ (a1.length : Int))) then (g.Q_only (a1.take (1 : Int).toNat) [97, 98, 99, 100, 101, 102, 103, 104, 105, 106, 107, 108, 109, 110, 111, 112, 113, 114, 115, 116, 117, 118, 119, 120, 121, 122] (fun r3 => (bif r3 then (g.Q_only a1 [97, 98, 99, 100, 101, 102, 103, 104, 105, 106, 107, 108, 109, 110, 111, 112, 113, 114, 115, 116, 117, 118, 119, 120, 121, 122, 48, 49, 50, 51, 52, 53, 54, 55, 56, 57, 45, 95] (fun r4 => k0 r4)) else k0 false))) else none) else k0 false)))
noncomputable def I_Q_Key [Fuel] : C_Q_Key := ⟨NN, @Q_in _, @Q_only _⟩
noncomputable def Q_Key [Fuel] : T_Q_Key := @Q_Key_ I_Q_Key
def SS_Q_Key (g : T_Q_Key) : Spec A := fun args => match args with | [.d (.str a1)] => fun k => g a1 (fun z0 => k (.d (.bool z0)) [.undef]) | _ => fun _ => none
noncomputable def code_54 : Code := (Tryz.f54.body).getD .skip
noncomputable def E_Q_Key (g : C_Q_Key) : Env A := mkE [(55, SS_Q_in g.Q_in), (102, SS_Q_only g.Q_only)] [] [] [] [] [] [] [] [] []
theorem sm_Q_Key (g : C_Q_Key) : Same (SS_Q_Key (@Q_Key_ g)) (abody (E_Q_Key g) Tryz.f54 code_54 0 [] [.asis] g.N) := by intro args; unfold SS_Q_Key; split; exact .inr fun R k => (by kernel_rfl); exact .inl fun R k => rfl
theorem ok_Q_Key [Fuel] : Ok 54 (SS_Q_Key (@Q_Key _)) := okF_of std (.cons ok_Q_in (.cons ok_Q_only .nil)) ⟨rfl, rfl, by kernel_rfl, rfl, rfl⟩ (sm_Q_Key I_Q_Key) (cuts0 (fun _ => rfl) (by kernel_rfl)) Tryz.func54 (by kernel_rfl) (by kernel_rfl)
abbrev T_Q_AwardsFault : Type 1 := List G_Award → {R : Type} → (Int → Option R) → Option R
structure C_Q_AwardsFault where
  N : Nat
  Q_Key : T_Q_Key
  Q_in : T_Q_in
def Q_AwardsFault_L5 (g : C_Q_AwardsFault) : Nat → List UInt8 → List G_Award → Int → Int → {R : Type} → (Int → Option R) → Option R → Option R
  | 0, _, _, _, _, _, _, _ => none
  | n + 1, v2, v3, v4, v5, _, e0, e1 => (bif (decide (v5 < v4)) then (get_ v3 v5 fun x13 => (g.Q_Key x13.f_Key (fun r14 => (bif (!r14) then e0 5 else (bif (!(x13.f_Band == [])) then (g.Q_Key x13.f_Band (fun r15 => (bif (!r15) then e0 5 else (g.Q_in x13.f_Count 1 4 (fun r16 => (bif (!r16) then e0 4 else (g.Q_in x13.f_Need 1 3000 (fun r17 => (bif (!r17) then e0 1 else (bif (Op.bytesLess x13.f_Key v2 || x13.f_Key == v2) then e0 7 else Q_AwardsFault_L5 g n x13.f_Key v3 v4 (w64 (v5 + 1)) e0 e1)))))))))) else (g.Q_in x13.f_Count 1 4 (fun r18 => (bif (!r18) then e0 4 else (g.Q_in x13.f_Need 1 3000 (fun r19 => (bif (!r19) then e0 1 else (bif (Op.bytesLess x13.f_Key v2 || x13.f_Key == v2) then e0 7 else Q_AwardsFault_L5 g n x13.f_Key v3 v4 (w64 (v5 + 1)) e0 e1)))))))))))) else e1)
def Q_AwardsFault_ (g : C_Q_AwardsFault) (a1 : List G_Award) {R : Type} (k0 : Int → Option R) : Option R :=
  (bif (decide ((a1.length : Int) > 50)) then k0 2 else (Q_AwardsFault_L5 g g.N [] a1 (a1.length : Int) 0 (fun e20 => k0 e20) (k0 0)))
noncomputable def I_Q_AwardsFault [Fuel] : C_Q_AwardsFault := ⟨NN, @Q_Key _, @Q_in _⟩
noncomputable def Q_AwardsFault [Fuel] : T_Q_AwardsFault := @Q_AwardsFault_ I_Q_AwardsFault
def SS_Q_AwardsFault (g : T_Q_AwardsFault) : Spec A := fun args => match args with | [.d (.sl 33 a1)] => fun k => g a1 (fun z0 => k (.d (.int .i64 z0)) [.undef]) | _ => fun _ => none
def sh_Q_AwardsFault_L5 : SSt := mkSh 49 1 [(3, .str), (9, .sl 33), (10, .int .i64), (11, .int .i64)] []
def LP_Q_AwardsFault_L5 (g : C_Q_AwardsFault) (n : Nat) : LPT A := fun ps => match ps with | [.d (.str p1), .d (.sl 33 p2), .d (.int .i64 p3), .d (.int .i64 p4)] => fun K => Q_AwardsFault_L5 g n p1 p2 p3 p4 (fun z0 => K .ret (mkSt 49 1 [(2, .d (.int .i64 z0))] [])) (K (.exit 0) (mkSt 49 1 [] [])) | _ => fun _ => none
noncomputable def code_14 : Code := (Tryz.f14.body).getD .skip
noncomputable def E_Q_AwardsFault (g : C_Q_AwardsFault) : Env A := mkE [(54, SS_Q_Key g.Q_Key), (55, SS_Q_in g.Q_in)] [(5, [0])] [(5, ⟨[3, 9, 10, 11], [], [], []⟩)] [(5, ⟨[2], [], [], []⟩)] [(5, pieceOf sh_Q_AwardsFault_L5 (LP_Q_AwardsFault_L5 g g.N))] [] [] [] [] []
theorem ct_Q_AwardsFault [Fuel] : NatTab (E_Q_AwardsFault I_Q_AwardsFault).C := ct_of (P := Tryz.prog) (T := T) (.cons ok_Q_Key (.cons ok_Q_in .nil)) (by kernel_rfl)
noncomputable def cb_Q_AwardsFault_L5 : Code := sub [1, 1, 1, 0, 1, 0, 0] code_14
theorem s_Q_AwardsFault_L5 (g : C_Q_AwardsFault) (n : Nat) : StepOk (E_Q_AwardsFault g) g.N cb_Q_AwardsFault_L5 sh_Q_AwardsFault_L5 (LP_Q_AwardsFault_L5 g) n := by intro ps; unfold LP_Q_AwardsFault_L5; split; exact .inr fun R K => (by kernel_rfl); exact .inl fun R K => rfl
theorem lf_Q_AwardsFault_L5 [Fuel] : LoopFine (E_Q_AwardsFault I_Q_AwardsFault) NN cb_Q_AwardsFault_L5 := fine_loop sh_Q_AwardsFault_L5 (LP_Q_AwardsFault_L5 I_Q_AwardsFault) (by kernel_rfl) ct_Q_AwardsFault (cuts0 (fun _ => rfl) (by kernel_rfl)) (fun ps R K => by unfold LP_Q_AwardsFault_L5; split <;> (try unfold Q_AwardsFault_L5) <;> rfl) (s_Q_AwardsFault_L5 I_Q_AwardsFault)
theorem sm_Q_AwardsFault (g : C_Q_AwardsFault) : Same (SS_Q_AwardsFault (@Q_AwardsFault_ g)) (abody (E_Q_AwardsFault g) Tryz.f14 code_14 1 [] [.asis] g.N) := by intro args; unfold SS_Q_AwardsFault; split; exact .inr fun R k => (by kernel_rfl); exact .inl fun R k => rfl
theorem ok_Q_AwardsFault [Fuel] : Ok 14 (SS_Q_AwardsFault (@Q_AwardsFault _)) := okF_of std (.cons ok_Q_Key (.cons ok_Q_in .nil)) ⟨rfl, rfl, by kernel_rfl, rfl, rfl⟩ (sm_Q_AwardsFault I_Q_AwardsFault) (cutsL (fun _ => rfl) (.cons lf_Q_AwardsFault_L5 .nil) (by kernel_rfl)) Tryz.func14 (by kernel_rfl) (by kernel_rfl)
abbrev T_Q_Moment : Type 1 := Int → {R : Type} → (Bool → Option R) → Option R
structure C_Q_Moment where
  N : Nat
  Q_in : T_Q_in
def Q_Moment_ (g : C_Q_Moment) (a1 : Int) {R : Type} (k0 : Bool → Option R) : Option R :=
  (g.Q_in a1 0 345686399999 (fun r2 => k0 r2))
noncomputable def I_Q_Moment [Fuel] : C_Q_Moment := ⟨NN, @Q_in _⟩
noncomputable def Q_Moment [Fuel] : T_Q_Moment := @Q_Moment_ I_Q_Moment
def SS_Q_Moment (g : T_Q_Moment) : Spec A := fun args => match args with | [.d (.int .i64 a1)] => fun k => g a1 (fun z0 => k (.d (.bool z0)) [.undef]) | _ => fun _ => none
noncomputable def code_56 : Code := (Tryz.f56.body).getD .skip
noncomputable def E_Q_Moment (g : C_Q_Moment) : Env A := mkE [(55, SS_Q_in g.Q_in)] [] [] [] [] [] [] [] [] []
theorem sm_Q_Moment (g : C_Q_Moment) : Same (SS_Q_Moment (@Q_Moment_ g)) (abody (E_Q_Moment g) Tryz.f56 code_56 0 [] [.asis] g.N) := by intro args; unfold SS_Q_Moment; split; exact .inr fun R k => (by kernel_rfl); exact .inl fun R k => rfl
theorem ok_Q_Moment [Fuel] : Ok 56 (SS_Q_Moment (@Q_Moment _)) := okF_of std (.cons ok_Q_in .nil) ⟨rfl, rfl, by kernel_rfl, rfl, rfl⟩ (sm_Q_Moment I_Q_Moment) (cuts0 (fun _ => rfl) (by kernel_rfl)) Tryz.func56 (by kernel_rfl) (by kernel_rfl)
abbrev T_R_in : Type 1 := Int → Int → Int → {R : Type} → (Bool → Option R) → Option R
def R_in_ (g : Nat) (a1 a2 a3 : Int) {R : Type} (k0 : Bool → Option R) : Option R :=
  (bif (decide (a2 ≤ a1)) then k0 (decide (a1 ≤ a3)) else k0 false)
noncomputable def R_in [Fuel] : T_R_in := @R_in_ NN
def SS_R_in (g : T_R_in) : Spec A := fun args => match args with | [.d (.int .i64 a1), .d (.int .i64 a2), .d (.int .i64 a3)] => fun k => g a1 a2 a3 (fun z0 => k (.d (.bool z0)) [.undef, .undef, .undef]) | _ => fun _ => none
noncomputable def code_184 : Code := (Tryz.f184.body).getD .skip
noncomputable def E_R_in (g : Nat) : Env A := mkE [] [] [] [] [] [] [] [] [] []
theorem sm_R_in (g : Nat) : Same (SS_R_in (@R_in_ g)) (abody (E_R_in g) Tryz.f184 code_184 0 [] [.asis] g) := by intro args; unfold SS_R_in; split; exact .inr fun R k => (by kernel_rfl); exact .inl fun R k => rfl
theorem ok_R_in [Fuel] : Ok 184 (SS_R_in (@R_in _)) := okF_of std .nil ⟨rfl, rfl, by kernel_rfl, rfl, rfl⟩ (sm_R_in NN) (cuts0 (fun _ => rfl) (by kernel_rfl)) Tryz.func184 (by kernel_rfl) (by kernel_rfl)
abbrev T_strings_ContainsAny : Type 1 := List UInt8 → List UInt8 → {R : Type} → (Bool → Option R) → Option R
def strings_ContainsAny [Fuel] : T_strings_ContainsAny := @X_cany
def SS_strings_ContainsAny (g : T_strings_ContainsAny) : Spec A := SSX_cany g
theorem ok_strings_ContainsAny [Fuel] : Ok 185 (SS_strings_ContainsAny (@strings_ContainsAny _)) := ⟨ssx_cany_sound (cany_sound rfl (fun s cs w h1 h2 h3 h4 => Any.strings_ContainsAny_laid Tryz.lays150 (by kernel_rfl) s cs w h1 h2 h3 h4)), ssx_cany_nat, enters_of (fn := Tryz.f185) Tryz.func185 (by kernel_rfl) (by kernel_rfl)⟩
abbrev T_R_plain : Type 1 := List UInt8 → Int → Int → {R : Type} → (Bool → Option R) → Option R
structure C_R_plain where
  N : Nat
  strings_Trim : T_strings_Trim
  R_in : T_R_in
  strings_ContainsAny : T_strings_ContainsAny
def R_plain_ (g : C_R_plain) (a1 : List UInt8) (a2 a3 : Int) {R : Type} (k0 : Bool → Option R) : Option R :=
  (g.R_in (a1.length : Int) a2 a3 (fun r4 => (bif r4 then (g.strings_Trim a1 [97, 98, 99, 100, 101, 102, 103, 104, 105, 106, 107, 108, 109, 110, 111, 112, 113, 114, 115, 116, 117, 118, 119, 120, 121, 122, 48, 49, 50, 51, 52, 53, 54, 55, 56, 57] (fun r5 => (bif (r5 == []) then (g.strings_ContainsAny a1 [97, 98, 99, 100, 101, 102, 103, 104, 105, 106, 107, 108, 109, 110, 111, 112, 113, 114, 115, 116, 117, 118, 119, 120, 121, 122] (fun r6 => k0 r6)) else k0 false))) else k0 false)))
noncomputable def I_R_plain [Fuel] : C_R_plain := ⟨NN, @strings_Trim _, @R_in _, @strings_ContainsAny _⟩
noncomputable def R_plain [Fuel] : T_R_plain := @R_plain_ I_R_plain
def SS_R_plain (g : T_R_plain) : Spec A := fun args => match args with | [.d (.str a1), .d (.int .i64 a2), .d (.int .i64 a3)] => fun k => g a1 a2 a3 (fun z0 => k (.d (.bool z0)) [.undef, .undef, .undef]) | _ => fun _ => none
noncomputable def code_183 : Code := (Tryz.f183.body).getD .skip
noncomputable def E_R_plain (g : C_R_plain) : Env A := mkE [(120, SS_strings_Trim g.strings_Trim), (184, SS_R_in g.R_in), (185, SS_strings_ContainsAny g.strings_ContainsAny)] [] [] [] [] [] [] [] [] []
theorem sm_R_plain (g : C_R_plain) : Same (SS_R_plain (@R_plain_ g)) (abody (E_R_plain g) Tryz.f183 code_183 0 [] [.asis] g.N) := by intro args; unfold SS_R_plain; split; exact .inr fun R k => (by kernel_rfl); exact .inl fun R k => rfl
theorem ok_R_plain [Fuel] : Ok 183 (SS_R_plain (@R_plain _)) := okF_of std (.cons ok_strings_Trim (.cons ok_R_in (.cons ok_strings_ContainsAny .nil))) ⟨rfl, rfl, by kernel_rfl, rfl, rfl⟩ (sm_R_plain I_R_plain) (cuts0 (fun _ => rfl) (by kernel_rfl)) Tryz.func183 (by kernel_rfl) (by kernel_rfl)
abbrev T_R_baseAt : Type 1 := List UInt8 → {R : Type} → (Int → Option R) → Option R
structure C_R_baseAt where
  N : Nat
  strings_LastIndexAny : T_strings_LastIndexAny
  R_plain : T_R_plain
  R_in : T_R_in
  strings_ContainsAny : T_strings_ContainsAny
def R_baseAt_ (g : C_R_baseAt) (a1 : List UInt8) {R : Type} (k0 : Int → Option R) : Option R :=
  (g.strings_LastIndexAny a1 [48, 49, 50, 51, 52, 53, 54, 55, 56, 57] (fun r2 => (g.R_plain a1 3 10 (fun r3 => (bif (!r3) then k0 (-1) else (g.R_in r2 1 3 (fun r4 => (bif (!r4) then k0 (-1) else (g.R_in (w64 ((w64 ((a1.length : Int) - 1)) - r2)) 1 4 (fun r5 => (bif (!r5) then k0 (-1) else (bif (decide (0 ≤ r2) && decide (r2 ≤ (a1.length : Int))) then (g.strings_ContainsAny (a1.take (r2 : Int).toNat) [97, 98, 99, 100, 101, 102, 103, 104, 105, 106, 107, 108, 109, 110, 111, 112, 113, 114, 115, 116, 117, 118, 119, 120, 121, 122] (fun r6 => (bif (!r6) then k0 (-1) else k0 r2))) else none))))))))))))
noncomputable def I_R_baseAt [Fuel] : C_R_baseAt := ⟨NN, @strings_LastIndexAny _, @R_plain _, @R_in _, @strings_ContainsAny _⟩
noncomputable def R_baseAt [Fuel] : T_R_baseAt := @R_baseAt_ I_R_baseAt
def SS_R_baseAt (g : T_R_baseAt) : Spec A := fun args => match args with | [.d (.str a1)] => fun k => g a1 (fun z0 => k (.d (.int .i64 z0)) [.undef]) | _ => fun _ => none
noncomputable def code_136 : Code := (Tryz.f136.body).getD .skip
noncomputable def E_R_baseAt (g : C_R_baseAt) : Env A := mkE [(182, SS_strings_LastIndexAny g.strings_LastIndexAny), (183, SS_R_plain g.R_plain), (184, SS_R_in g.R_in), (185, SS_strings_ContainsAny g.strings_ContainsAny)] [] [] [] [] [] [] [] [] []
theorem sm_R_baseAt (g : C_R_baseAt) : Same (SS_R_baseAt (@R_baseAt_ g)) (abody (E_R_baseAt g) Tryz.f136 code_136 0 [] [.asis] g.N) := by intro args; unfold SS_R_baseAt; split; exact .inr fun R k => (by kernel_rfl); exact .inl fun R k => rfl
theorem ok_R_baseAt [Fuel] : Ok 136 (SS_R_baseAt (@R_baseAt _)) := okF_of std (.cons ok_strings_LastIndexAny (.cons ok_R_plain (.cons ok_R_in (.cons ok_strings_ContainsAny .nil)))) ⟨rfl, rfl, by kernel_rfl, rfl, rfl⟩ (sm_R_baseAt I_R_baseAt) (cuts0 (fun _ => rfl) (by kernel_rfl)) Tryz.func136 (by kernel_rfl) (by kernel_rfl)
abbrev T_R_PartsOf_1 : Type 1 := List UInt8 → {R : Type} → (G_Parts → Option R) → Option R
structure C_R_PartsOf_1 where
  N : Nat
  R_baseAt : T_R_baseAt
def R_PartsOf_1_ (g : C_R_PartsOf_1) (a1 : List UInt8) {R : Type} (k0 : G_Parts → Option R) : Option R :=
  (g.R_baseAt a1 (fun r2 => (bif (decide (0 ≤ (w64 (r2 + 1))) && decide ((w64 (r2 + 1)) ≤ (a1.length : Int))) then (bif (decide (0 ≤ (w64 (r2 + 1))) && decide ((w64 (r2 + 1)) ≤ (a1.length : Int))) then k0 (⟨a1, (a1.take ((w64 (r2 + 1)) : Int).toNat), (a1.drop ((w64 (r2 + 1)) : Int).toNat), 0, []⟩ : G_Parts) else none) else none)))
noncomputable def I_R_PartsOf_1 [Fuel] : C_R_PartsOf_1 := ⟨NN, @R_baseAt _⟩
noncomputable def R_PartsOf_1 [Fuel] : T_R_PartsOf_1 := @R_PartsOf_1_ I_R_PartsOf_1
def SS_R_PartsOf_1 (g : T_R_PartsOf_1) : Spec A := fun args => match args with | [.d (.str a1)] => fun k => g a1 (fun z0 => k (.agg [.d (.str z0.f_Base), .d (.str z0.f_Prefix), .d (.str z0.f_Suffix), .d (.int .i64 z0.f_Kind), .d (.str z0.f_Added)]) [.undef]) | _ => fun _ => none
noncomputable def code_135 : Code := (Tryz.f135.body).getD .skip
noncomputable def E_R_PartsOf_1 (g : C_R_PartsOf_1) : Env A := mkE [(136, SS_R_baseAt g.R_baseAt)] [(2, [0])] [] [] [] [] [] [] [] []
theorem sm_R_PartsOf_1 (g : C_R_PartsOf_1) : Same (SS_R_PartsOf_1 (@R_PartsOf_1_ g)) (abody (E_R_PartsOf_1 g) Tryz.f135 code_135 1 [] [.asis] g.N) := by intro args; unfold SS_R_PartsOf_1; split; exact .inr fun R k => (by kernel_rfl); exact .inl fun R k => rfl
theorem ok_R_PartsOf_1 [Fuel] : Ok 135 (SS_R_PartsOf_1 (@R_PartsOf_1 _)) := okF_of std (.cons ok_R_baseAt .nil) ⟨rfl, rfl, by kernel_rfl, rfl, rfl⟩ (sm_R_PartsOf_1 I_R_PartsOf_1) (cuts0 (fun _ => rfl) (by kernel_rfl)) Tryz.func135 (by kernel_rfl) (by kernel_rfl)
abbrev T_R_begin : Type 1 := List UInt8 → {R : Type} → (Bool → Option R) → Option R
structure C_R_begin where
  N : Nat
  R_plain : T_R_plain
def R_begin_ (g : C_R_begin) (a1 : List UInt8) {R : Type} (k0 : Bool → Option R) : Option R :=
  (g.R_plain a1 1 4 (fun r2 => k0 r2))
noncomputable def I_R_begin [Fuel] : C_R_begin := ⟨NN, @R_plain _⟩
noncomputable def R_begin [Fuel] : T_R_begin := @R_begin_ I_R_begin
def SS_R_begin (g : T_R_begin) : Spec A := fun args => match args with | [.d (.str a1)] => fun k => g a1 (fun z0 => k (.d (.bool z0)) [.undef]) | _ => fun _ => none
noncomputable def code_137 : Code := (Tryz.f137.body).getD .skip
noncomputable def E_R_begin (g : C_R_begin) : Env A := mkE [(183, SS_R_plain g.R_plain)] [] [] [] [] [] [] [] [] []
theorem sm_R_begin (g : C_R_begin) : Same (SS_R_begin (@R_begin_ g)) (abody (E_R_begin g) Tryz.f137 code_137 0 [] [.asis] g.N) := by intro args; unfold SS_R_begin; split; exact .inr fun R k => (by kernel_rfl); exact .inl fun R k => rfl
theorem ok_R_begin [Fuel] : Ok 137 (SS_R_begin (@R_begin _)) := okF_of std (.cons ok_R_plain .nil) ⟨rfl, rfl, by kernel_rfl, rfl, rfl⟩ (sm_R_begin I_R_begin) (cuts0 (fun _ => rfl) (by kernel_rfl)) Tryz.func137 (by kernel_rfl) (by kernel_rfl)
end Go.Am
