/- The functions of the program as Lean functions, each shown to be what the code computes, part 4. No condition: lemmas for the claim. -/
import Derived.Test.YtnkoiigdcbjenaaGreatDoorF0
import Derived.Test.YtnkoiigdcbjenaaGreatDoorFSh
import Derived.Test.YtnkoiigdcbjenaaGreatDoorF1
import Derived.Test.YtnkoiigdcbjenaaGreatDoorF3
set_option linter.unusedVariables false
set_option maxRecDepth 100000
namespace Go.Am
open Go Go.Proofs
abbrev T_club_isInside_1 : Type 1 := List UInt8 → G_Member → {R : Type} → (Bool → G_Member → Option R) → Option R
structure C_club_isInside_1 where
  N : Nat
  strings_HasPrefix : T_strings_HasPrefix
def club_isInside_1_ (g : C_club_isInside_1) (a1 : List UInt8) (a2 : G_Member) {R : Type} (k0 : Bool → G_Member → Option R) : Option R :=
  (g.strings_HasPrefix a2.f_Locator a1 (fun r3 => k0 r3 a2))
noncomputable def I_club_isInside_1 [Fuel] : C_club_isInside_1 := ⟨NN, @strings_HasPrefix _⟩
noncomputable def club_isInside_1 [Fuel] : T_club_isInside_1 := @club_isInside_1_ I_club_isInside_1
def SS_club_isInside_1 (g : T_club_isInside_1) : Spec A := fun args => match args with | [.d (.str a1), .box [.d (.str a2), .d (.str a3), .d (.int .i64 a4), .d (.str a5)]] => fun k => g a1 ⟨a2, a3, a4, a5⟩ (fun z0 z1 => k (.d (.bool z0)) [.undef, .box [.d (.str z1.f_Call), .d (.str z1.f_Club), .d (.int .i64 z1.f_Day), .d (.str z1.f_Locator)]]) | _ => fun _ => none
noncomputable def code_114 : Code := (Tryz.f114.body).getD .skip
noncomputable def E_club_isInside_1 (g : C_club_isInside_1) : Env A := mkE [(115, SS_strings_HasPrefix g.strings_HasPrefix)] [] [] [] [] [] [] [] [] [1]
theorem sm_club_isInside_1 (g : C_club_isInside_1) : Same (SS_club_isInside_1 (@club_isInside_1_ g)) (abody (E_club_isInside_1 g) Tryz.f114 code_114 1 [0] [.asis] g.N) := by intro args; unfold SS_club_isInside_1; split; exact .inr fun R k => (by kernel_rfl); exact .inl fun R k => rfl
theorem ok_club_isInside_1 [Fuel] : Ok 114 (SS_club_isInside_1 (@club_isInside_1 _)) := okF_of std (.cons ok_strings_HasPrefix .nil) ⟨rfl, rfl, by kernel_rfl, rfl, rfl, rfl⟩ (sm_club_isInside_1 I_club_isInside_1) (cuts0 (fun _ => rfl) (by kernel_rfl)) Tryz.func114 (by kernel_rfl) (by kernel_rfl)
abbrev T_slices_IndexFunc__string_club_isInside_1 : Type 1 := List (List UInt8) → G_Member → {R : Type} → (Int → G_Member → Option R) → Option R
structure C_slices_IndexFunc__string_club_isInside_1 where
  N : Nat
  club_isInside_1 : T_club_isInside_1
def slices_IndexFunc__string_club_isInside_1_L2 (g : C_slices_IndexFunc__string_club_isInside_1) : Nat → List (List UInt8) → Int → Int → G_Member → {R : Type} → (Int → G_Member → Option R) → (G_Member → Option R) → Option R
  | 0, _, _, _, _, _, _, _ => none
  | n + 1, v3, v4, v5, v6, _, e0, e1 => (bif (decide (v5 < v4)) then (get_ v3 v5 fun x10 => (g.club_isInside_1 x10 v6 (fun r11 r12 => (bif r11 then e0 v5 r12 else slices_IndexFunc__string_club_isInside_1_L2 g n v3 v4 (w64 (v5 + 1)) r12 e0 e1)))) else e1 v6)
def slices_IndexFunc__string_club_isInside_1_ (g : C_slices_IndexFunc__string_club_isInside_1) (a1 : List (List UInt8)) (a2 : G_Member) {R : Type} (k0 : Int → G_Member → Option R) : Option R :=
  (slices_IndexFunc__string_club_isInside_1_L2 g g.N a1 (a1.length : Int) 0 a2 (fun e13 e14 => k0 e13 e14) (fun e15 => k0 (-1) e15))
noncomputable def I_slices_IndexFunc__string_club_isInside_1 [Fuel] : C_slices_IndexFunc__string_club_isInside_1 := ⟨NN, @club_isInside_1 _⟩
noncomputable def slices_IndexFunc__string_club_isInside_1 [Fuel] : T_slices_IndexFunc__string_club_isInside_1 := @slices_IndexFunc__string_club_isInside_1_ I_slices_IndexFunc__string_club_isInside_1
def SS_slices_IndexFunc__string_club_isInside_1 (g : T_slices_IndexFunc__string_club_isInside_1) : Spec A := fun args => match args with | [.d (.sl 9 a1), .fn 114 [.box [.d (.str a2), .d (.str a3), .d (.int .i64 a4), .d (.str a5)]]] => fun k => g a1 ⟨a2, a3, a4, a5⟩ (fun z0 z1 => k (.d (.int .i64 z0)) [.undef, .fn 114 [.box [.d (.str z1.f_Call), .d (.str z1.f_Club), .d (.int .i64 z1.f_Day), .d (.str z1.f_Locator)]]]) | _ => fun _ => none
def sh_slices_IndexFunc__string_club_isInside_1_L2 : SSt := mkSh 19 1 [(0, .sl 9), (1, .fn 114 [.ptr 0 0]), (7, .int .i64), (8, .int .i64)] [(0, .box [.str, .str, .int .i64, .str])]
def LP_slices_IndexFunc__string_club_isInside_1_L2 (g : C_slices_IndexFunc__string_club_isInside_1) (n : Nat) : LPT A := fun ps => match ps with | [.d (.sl 9 p1), .d (.int .i64 p2), .d (.int .i64 p3), .d (.str p4), .d (.str p5), .d (.int .i64 p6), .d (.str p7)] => fun K => slices_IndexFunc__string_club_isInside_1_L2 g n p1 p2 p3 ⟨p4, p5, p6, p7⟩ (fun z0 z1 => K .ret (mkSt 19 1 [(1, .fn 114 [.ptr 0 0]), (4, .d (.int .i64 z0))] [(0, some (.box [.d (.str z1.f_Call), .d (.str z1.f_Club), .d (.int .i64 z1.f_Day), .d (.str z1.f_Locator)]))])) (fun z0 => K (.exit 0) (mkSt 19 1 [(1, .fn 114 [.ptr 0 0])] [(0, some (.box [.d (.str z0.f_Call), .d (.str z0.f_Club), .d (.int .i64 z0.f_Day), .d (.str z0.f_Locator)]))])) | _ => fun _ => none
noncomputable def code_151 : Code := (Tryz.f151.body).getD .skip
noncomputable def E_slices_IndexFunc__string_club_isInside_1 (g : C_slices_IndexFunc__string_club_isInside_1) : Env A := mkE [(114, SS_club_isInside_1 g.club_isInside_1)] [] [(2, ⟨[0, 1, 7, 8], [], [0], []⟩)] [(2, ⟨[1, 4], [], [0], []⟩)] [(2, pieceOf sh_slices_IndexFunc__string_club_isInside_1_L2 (LP_slices_IndexFunc__string_club_isInside_1_L2 g g.N))] [] [] [] [] [1]
theorem ct_slices_IndexFunc__string_club_isInside_1 [Fuel] : NatTab (E_slices_IndexFunc__string_club_isInside_1 I_slices_IndexFunc__string_club_isInside_1).C := ct_of (P := Tryz.prog) (T := T) (.cons ok_club_isInside_1 .nil) (by kernel_rfl)
noncomputable def cb_slices_IndexFunc__string_club_isInside_1_L2 : Code := sub [1, 0, 1, 0, 0] code_151
theorem s_slices_IndexFunc__string_club_isInside_1_L2 (g : C_slices_IndexFunc__string_club_isInside_1) (n : Nat) : StepOk (E_slices_IndexFunc__string_club_isInside_1 g) g.N cb_slices_IndexFunc__string_club_isInside_1_L2 sh_slices_IndexFunc__string_club_isInside_1_L2 (LP_slices_IndexFunc__string_club_isInside_1_L2 g) n := by intro ps; unfold LP_slices_IndexFunc__string_club_isInside_1_L2; split; exact .inr fun R K => (by kernel_rfl); exact .inl fun R K => rfl
theorem lf_slices_IndexFunc__string_club_isInside_1_L2 [Fuel] : LoopFine (E_slices_IndexFunc__string_club_isInside_1 I_slices_IndexFunc__string_club_isInside_1) NN cb_slices_IndexFunc__string_club_isInside_1_L2 := fine_loop sh_slices_IndexFunc__string_club_isInside_1_L2 (LP_slices_IndexFunc__string_club_isInside_1_L2 I_slices_IndexFunc__string_club_isInside_1) (by kernel_rfl) ct_slices_IndexFunc__string_club_isInside_1 (cuts0 (fun _ => rfl) (by kernel_rfl)) (fun ps R K => by unfold LP_slices_IndexFunc__string_club_isInside_1_L2; split <;> (try unfold slices_IndexFunc__string_club_isInside_1_L2) <;> rfl) (s_slices_IndexFunc__string_club_isInside_1_L2 I_slices_IndexFunc__string_club_isInside_1)
theorem sm_slices_IndexFunc__string_club_isInside_1 (g : C_slices_IndexFunc__string_club_isInside_1) : Same (SS_slices_IndexFunc__string_club_isInside_1 (@slices_IndexFunc__string_club_isInside_1_ g)) (abody (E_slices_IndexFunc__string_club_isInside_1 g) Tryz.f151 code_151 1 [0] [.asis] g.N) := by intro args; unfold SS_slices_IndexFunc__string_club_isInside_1; split; exact .inr fun R k => (by kernel_rfl); exact .inl fun R k => rfl
theorem ok_slices_IndexFunc__string_club_isInside_1 [Fuel] : Ok 151 (SS_slices_IndexFunc__string_club_isInside_1 (@slices_IndexFunc__string_club_isInside_1 _)) := okF_of std (.cons ok_club_isInside_1 .nil) ⟨rfl, rfl, by kernel_rfl, rfl, rfl, rfl⟩ (sm_slices_IndexFunc__string_club_isInside_1 I_slices_IndexFunc__string_club_isInside_1) (cutsL (fun _ => rfl) (.cons lf_slices_IndexFunc__string_club_isInside_1_L2 .nil) (by kernel_rfl)) Tryz.func151 (by kernel_rfl) (by kernel_rfl)
abbrev T_slices_ContainsFunc__string_club_isInside_1 : Type 1 := List (List UInt8) → G_Member → {R : Type} → (Bool → G_Member → Option R) → Option R
structure C_slices_ContainsFunc__string_club_isInside_1 where
  N : Nat
  slices_IndexFunc__string_club_isInside_1 : T_slices_IndexFunc__string_club_isInside_1
def slices_ContainsFunc__string_club_isInside_1_ (g : C_slices_ContainsFunc__string_club_isInside_1) (a1 : List (List UInt8)) (a2 : G_Member) {R : Type} (k0 : Bool → G_Member → Option R) : Option R :=
  (g.slices_IndexFunc__string_club_isInside_1 a1 a2 (fun r3 r4 => k0 (decide (r3 ≥ 0)) r4))
noncomputable def I_slices_ContainsFunc__string_club_isInside_1 [Fuel] : C_slices_ContainsFunc__string_club_isInside_1 := ⟨NN, @slices_IndexFunc__string_club_isInside_1 _⟩
noncomputable def slices_ContainsFunc__string_club_isInside_1 [Fuel] : T_slices_ContainsFunc__string_club_isInside_1 := @slices_ContainsFunc__string_club_isInside_1_ I_slices_ContainsFunc__string_club_isInside_1
def SS_slices_ContainsFunc__string_club_isInside_1 (g : T_slices_ContainsFunc__string_club_isInside_1) : Spec A := fun args => match args with | [.d (.sl 9 a1), .fn 114 [.box [.d (.str a2), .d (.str a3), .d (.int .i64 a4), .d (.str a5)]]] => fun k => g a1 ⟨a2, a3, a4, a5⟩ (fun z0 z1 => k (.d (.bool z0)) [.undef, .fn 114 [.box [.d (.str z1.f_Call), .d (.str z1.f_Club), .d (.int .i64 z1.f_Day), .d (.str z1.f_Locator)]]]) | _ => fun _ => none
noncomputable def code_113 : Code := (Tryz.f113.body).getD .skip
noncomputable def E_slices_ContainsFunc__string_club_isInside_1 (g : C_slices_ContainsFunc__string_club_isInside_1) : Env A := mkE [(151, SS_slices_IndexFunc__string_club_isInside_1 g.slices_IndexFunc__string_club_isInside_1)] [] [] [] [] [] [] [] [(151, 0)] [1]
theorem sm_slices_ContainsFunc__string_club_isInside_1 (g : C_slices_ContainsFunc__string_club_isInside_1) : Same (SS_slices_ContainsFunc__string_club_isInside_1 (@slices_ContainsFunc__string_club_isInside_1_ g)) (abody (E_slices_ContainsFunc__string_club_isInside_1 g) Tryz.f113 code_113 1 [0] [.asis] g.N) := by intro args; unfold SS_slices_ContainsFunc__string_club_isInside_1; split; exact .inr fun R k => (by kernel_rfl); exact .inl fun R k => rfl
theorem ok_slices_ContainsFunc__string_club_isInside_1 [Fuel] : Ok 113 (SS_slices_ContainsFunc__string_club_isInside_1 (@slices_ContainsFunc__string_club_isInside_1 _)) := okF_of std (.cons ok_slices_IndexFunc__string_club_isInside_1 .nil) ⟨rfl, rfl, by kernel_rfl, rfl, rfl, rfl⟩ (sm_slices_ContainsFunc__string_club_isInside_1 I_slices_ContainsFunc__string_club_isInside_1) (cuts0 (fun _ => rfl) (by kernel_rfl)) Tryz.func113 (by kernel_rfl) (by kernel_rfl)
abbrev T_club_isInside : Type 1 := List G_Club → G_Member → {R : Type} → (Bool → Option R) → Option R
structure C_club_isInside where
  N : Nat
  club_clubAt : T_club_clubAt
  slices_ContainsFunc__string_club_isInside_1 : T_slices_ContainsFunc__string_club_isInside_1
def club_isInside_ (g : C_club_isInside) (a1 : List G_Club) (a2 : G_Member) {R : Type} (k0 : Bool → Option R) : Option R :=
  (g.club_clubAt a1 a2.f_Club (fun r3 r4 => (bif r4 then (get_ a1 r3 fun x5 => (g.slices_ContainsFunc__string_club_isInside_1 x5.f_Squares a2 (fun r6 r7 => k0 r6))) else k0 false)))
noncomputable def I_club_isInside [Fuel] : C_club_isInside := ⟨NN, @club_clubAt _, @slices_ContainsFunc__string_club_isInside_1 _⟩
noncomputable def club_isInside [Fuel] : T_club_isInside := @club_isInside_ I_club_isInside
def SS_club_isInside (g : T_club_isInside) : Spec A := fun args => match args with | [.d (.sl 106 a1), .agg [.d (.str a2), .d (.str a3), .d (.int .i64 a4), .d (.str a5)]] => fun k => g a1 ⟨a2, a3, a4, a5⟩ (fun z0 => k (.d (.bool z0)) [.undef, .undef]) | _ => fun _ => none
noncomputable def code_70 : Code := (Tryz.f70.body).getD .skip
noncomputable def E_club_isInside (g : C_club_isInside) : Env A := mkE [(112, SS_club_clubAt g.club_clubAt), (113, SS_slices_ContainsFunc__string_club_isInside_1 g.slices_ContainsFunc__string_club_isInside_1)] [(3, [0])] [] [] [] [] [] [] [] []
theorem sm_club_isInside (g : C_club_isInside) : Same (SS_club_isInside (@club_isInside_ g)) (abody (E_club_isInside g) Tryz.f70 code_70 1 [] [.asis] g.N) := by intro args; unfold SS_club_isInside; split; exact .inr fun R k => (by kernel_rfl); exact .inl fun R k => rfl
theorem ok_club_isInside [Fuel] : Ok 70 (SS_club_isInside (@club_isInside _)) := okF_of std (.cons ok_club_clubAt (.cons ok_slices_ContainsFunc__string_club_isInside_1 .nil)) ⟨rfl, rfl, by kernel_rfl, rfl, rfl, rfl⟩ (sm_club_isInside I_club_isInside) (cuts0 (fun _ => rfl) (by kernel_rfl)) Tryz.func70 (by kernel_rfl) (by kernel_rfl)
abbrev T_club_clubOf : Type 1 := List G_Club → List (List UInt8 × G_Member) → List UInt8 → {R : Type} → (List UInt8 → List (List UInt8 × G_Member) → Option R) → Option R
structure C_club_clubOf where
  N : Nat
  club_isInside : T_club_isInside
def club_clubOf_ (g : C_club_clubOf) (a1 : List G_Club) (a2 : List (List UInt8 × G_Member)) (a3 : List UInt8) {R : Type} (k0 : List UInt8 → List (List UInt8 × G_Member) → Option R) : Option R :=
  (bif (!(mget_string_Member a3 a2).isSome) then k0 [] a2 else (g.club_isInside a1 (⟨((mget_string_Member a3 a2).getD (⟨[], [], 0, []⟩ : G_Member)).f_Call, ((mget_string_Member a3 a2).getD (⟨[], [], 0, []⟩ : G_Member)).f_Club, ((mget_string_Member a3 a2).getD (⟨[], [], 0, []⟩ : G_Member)).f_Day, ((mget_string_Member a3 a2).getD (⟨[], [], 0, []⟩ : G_Member)).f_Locator⟩ : G_Member) (fun r4 => (bif (!r4) then k0 [] a2 else k0 (((mget_string_Member a3 a2).getD (⟨[], [], 0, []⟩ : G_Member)).f_Club) a2))))
noncomputable def I_club_clubOf [Fuel] : C_club_clubOf := ⟨NN, @club_isInside _⟩
noncomputable def club_clubOf [Fuel] : T_club_clubOf := @club_clubOf_ I_club_clubOf
def SS_club_clubOf (g : T_club_clubOf) : Spec A := fun args => match args with | [.d (.sl 106 a1), .mp 9 109 a2, .d (.str a3)] => fun k => g a1 a2 a3 (fun z0 z1 => k (.d (.str z0)) [.undef, .mp 9 109 z1, .undef]) | _ => fun _ => none
noncomputable def code_65 : Code := (Tryz.f65.body).getD .skip
noncomputable def E_club_clubOf (g : C_club_clubOf) : Env A := mkE [(70, SS_club_isInside g.club_isInside)] [(7, [1])] [] [] [] [] [] [] [] [1]
theorem sm_club_clubOf (g : C_club_clubOf) : Same (SS_club_clubOf (@club_clubOf_ g)) (abody (E_club_clubOf g) Tryz.f65 code_65 2 [0] [.asis] g.N) := by intro args; unfold SS_club_clubOf; split; exact .inr fun R k => (by kernel_rfl); exact .inl fun R k => rfl
theorem ok_club_clubOf [Fuel] : Ok 65 (SS_club_clubOf (@club_clubOf _)) := okF_of std (.cons ok_club_isInside .nil) ⟨rfl, rfl, by kernel_rfl, rfl, rfl, rfl⟩ (sm_club_clubOf I_club_clubOf) (cuts0 (fun _ => rfl) (by kernel_rfl)) Tryz.func65 (by kernel_rfl) (by kernel_rfl)
abbrev T_club_Of : Type 1 := List G_Club → List G_Member → List UInt8 → Int → {R : Type} → (List UInt8 → Int → Option R) → Option R
structure C_club_Of where
  N : Nat
  club_CheckMembers : T_club_CheckMembers
  call_Is : T_call_Is
  club_isDay : T_club_isDay
  club_clubOf : T_club_clubOf
  club_last : T_club_last
  call_BaseOf : T_call_BaseOf
def club_Of_ (g : C_club_Of) (a1 : List G_Club) (a2 : List G_Member) (a3 : List UInt8) (a4 : Int) {R : Type} (k0 : List UInt8 → Int → Option R) : Option R :=
  (g.club_CheckMembers a1 a2 (fun r5 => (bif (r5 != 0) then k0 [] r5 else (g.call_Is a3 (fun r6 => (bif (!r6) then k0 [] 3 else (g.club_isDay a4 (fun r7 => (bif (!r7) then k0 [] 1 else (g.club_last a2 a4 (fun r8 => (g.call_BaseOf a3 (fun r9 => (g.club_clubOf a1 r8 r9 (fun r10 r11 => k0 r10 0)))))))))))))))
noncomputable def I_club_Of [Fuel] : C_club_Of := ⟨NN, @club_CheckMembers _, @call_Is _, @club_isDay _, @club_clubOf _, @club_last _, @call_BaseOf _⟩
noncomputable def club_Of [Fuel] : T_club_Of := @club_Of_ I_club_Of
def SS_club_Of (g : T_club_Of) : Spec A := fun args => match args with | [.d (.sl 106 a1), .d (.sl 109 a2), .d (.str a3), .d (.int .i64 a4)] => fun k => g a1 a2 a3 a4 (fun z0 z1 => k (.tup [.d (.str z0), .d (.int .i64 z1)]) [.undef, .undef, .undef, .undef]) | _ => fun _ => none
noncomputable def code_25 : Code := (Tryz.f25.body).getD .skip
noncomputable def E_club_Of (g : C_club_Of) : Env A := mkE [(34, SS_club_CheckMembers g.club_CheckMembers), (63, SS_call_Is g.call_Is), (64, SS_club_isDay g.club_isDay), (65, SS_club_clubOf g.club_clubOf), (66, SS_club_last g.club_last), (67, SS_call_BaseOf g.call_BaseOf)] [(26, [0])] [] [] [] [] [] [] [] []
theorem sm_club_Of (g : C_club_Of) : Same (SS_club_Of (@club_Of_ g)) (abody (E_club_Of g) Tryz.f25 code_25 1 [] [.asis, .asis] g.N) := by intro args; unfold SS_club_Of; split; exact .inr fun R k => (by kernel_rfl); exact .inl fun R k => rfl
theorem ok_club_Of [Fuel] : Ok 25 (SS_club_Of (@club_Of _)) := okF_of std (.cons ok_club_CheckMembers (.cons ok_call_Is (.cons ok_club_isDay (.cons ok_club_clubOf (.cons ok_club_last (.cons ok_call_BaseOf .nil)))))) ⟨rfl, rfl, by kernel_rfl, rfl, rfl, rfl⟩ (sm_club_Of I_club_Of) (cuts0 (fun _ => rfl) (by kernel_rfl)) Tryz.func25 (by kernel_rfl) (by kernel_rfl)
abbrev T_club_Outside : Type 1 := List G_Club → List G_Member → Int → {R : Type} → (List (List UInt8) → Int → Option R) → Option R
structure C_club_Outside where
  N : Nat
  club_CheckMembers : T_club_CheckMembers
  club_isDay : T_club_isDay
  club_last : T_club_last
  club_isInside : T_club_isInside
def club_Outside_L9 (g : C_club_Outside) : Nat → List G_Club → Int → Int → List (List UInt8 × G_Member) → List (List UInt8) → List (List UInt8) → {R : Type} → (List (List UInt8) → Option R) → Option R
  | 0, _, _, _, _, _, _, _, _ => none
  | n + 1, v8, v9, v10, v11, v12, v13, _, e0 => (bif (decide (v10 < v9)) then (inr v12 v10 (at_ v12 v10 fun x16 => (bif (!(((mget_string_Member x16 v11).getD (⟨[], [], 0, []⟩ : G_Member)).f_Club == [])) then (g.club_isInside v8 (⟨((mget_string_Member x16 v11).getD (⟨[], [], 0, []⟩ : G_Member)).f_Call, ((mget_string_Member x16 v11).getD (⟨[], [], 0, []⟩ : G_Member)).f_Club, ((mget_string_Member x16 v11).getD (⟨[], [], 0, []⟩ : G_Member)).f_Day, ((mget_string_Member x16 v11).getD (⟨[], [], 0, []⟩ : G_Member)).f_Locator⟩ : G_Member) (fun r17 => (bif (!r17) then (bif (decide ((v13.length + [x16].length) * 16 ≤ roomBytes')) then club_Outside_L9 g n v8 v9 (w64 (v10 + 1)) v11 v12 (v13 ++ [x16]) e0 else none) else club_Outside_L9 g n v8 v9 (w64 (v10 + 1)) v11 v12 v13 e0))) else club_Outside_L9 g n v8 v9 (w64 (v10 + 1)) v11 v12 v13 e0))) else e0 v13)
def club_Outside_ (g : C_club_Outside) (a1 : List G_Club) (a2 : List G_Member) (a3 : Int) {R : Type} (k0 : List (List UInt8) → Int → Option R) : Option R :=
  (g.club_CheckMembers a1 a2 (fun r4 => (bif (r4 != 0) then k0 [] r4 else (g.club_isDay a3 (fun r5 => (bif (!r5) then k0 [] 1 else (g.club_last a2 a3 (fun r6 => (keys_ (srtK9 (List.map (fun p => p.1) r6)) fun x7 => (club_Outside_L9 g g.N a1 (x7.length : Int) 0 r6 x7 [] (fun e18 => k0 e18 0)))))))))))
noncomputable def I_club_Outside [Fuel] : C_club_Outside := ⟨NN, @club_CheckMembers _, @club_isDay _, @club_last _, @club_isInside _⟩
noncomputable def club_Outside [Fuel] : T_club_Outside := @club_Outside_ I_club_Outside
def SS_club_Outside (g : T_club_Outside) : Spec A := fun args => match args with | [.d (.sl 106 a1), .d (.sl 109 a2), .d (.int .i64 a3)] => fun k => g a1 a2 a3 (fun z0 z1 => k (.tup [.arr 9 z0, .d (.int .i64 z1)]) [.undef, .undef, .undef]) | _ => fun _ => none
def sh_club_Outside_L9 : SSt := mkSh 52 7 [(0, .sl 106), (9, .own 9 3), (10, .mp 0), (28, .own 9 2), (29, .int .i64), (30, .int .i64)] [(0, .mp 9 109), (2, .row 9), (3, .row 9)]
def LP_club_Outside_L9 (g : C_club_Outside) (n : Nat) : LPT A := fun ps => match ps with | [.d (.sl 106 p1), .d (.int .i64 p2), .d (.int .i64 p3), .mp 9 109 p4, .d (.sl 9 p5), .d (.sl 9 p6)] => fun K => club_Outside_L9 g n p1 p2 p3 p4 p5 p6 (fun z0 => K (.exit 0) (mkSt 52 7 [(9, .own 9 3)] [(3, some (.row 9 z0))])) | _ => fun _ => none
noncomputable def code_26 : Code := (Tryz.f26.body).getD .skip
noncomputable def E_club_Outside (g : C_club_Outside) : Env A := mkE [(34, SS_club_CheckMembers g.club_CheckMembers), (64, SS_club_isDay g.club_isDay), (66, SS_club_last g.club_last), (70, SS_club_isInside g.club_isInside)] [(13, [4]), (25, [0]), (27, [1]), (28, [2]), (48, [5]), (49, [6])] [(9, ⟨[0, 9, 10, 28, 29, 30], [(9, 9, 3)], [0, 2], []⟩)] [(9, ⟨[9], [], [3], []⟩)] [(9, pieceOf sh_club_Outside_L9 (LP_club_Outside_L9 g g.N))] [] [] [] [] []
theorem ct_club_Outside [Fuel] : NatTab (E_club_Outside I_club_Outside).C := ct_of (P := Tryz.prog) (T := T) (.cons ok_club_CheckMembers (.cons ok_club_isDay (.cons ok_club_last (.cons ok_club_isInside .nil)))) (by kernel_rfl)
noncomputable def cb_club_Outside_L9 : Code := sub [1, 1, 1, 1, 1, 0, 1, 0, 0] code_26
theorem s_club_Outside_L9 (g : C_club_Outside) (n : Nat) : StepOk (E_club_Outside g) g.N cb_club_Outside_L9 sh_club_Outside_L9 (LP_club_Outside_L9 g) n := by intro ps; unfold LP_club_Outside_L9; split; exact .inr fun R K => (by kernel_rfl); exact .inl fun R K => rfl
theorem lf_club_Outside_L9 [Fuel] : LoopFine (E_club_Outside I_club_Outside) NN cb_club_Outside_L9 := fine_loop sh_club_Outside_L9 (LP_club_Outside_L9 I_club_Outside) (by kernel_rfl) ct_club_Outside (cuts0 (fun _ => rfl) (by kernel_rfl)) (fun ps R K => by unfold LP_club_Outside_L9; split <;> (try unfold club_Outside_L9) <;> rfl) (s_club_Outside_L9 I_club_Outside)
theorem sm_club_Outside (g : C_club_Outside) : Same (SS_club_Outside (@club_Outside_ g)) (abody (E_club_Outside g) Tryz.f26 code_26 7 [] [.arr 9, .asis] g.N) := by intro args; unfold SS_club_Outside; split; exact .inr fun R k => (by kernel_rfl); exact .inl fun R k => rfl
theorem ok_club_Outside [Fuel] : Ok 26 (SS_club_Outside (@club_Outside _)) := okF_of std (.cons ok_club_CheckMembers (.cons ok_club_isDay (.cons ok_club_last (.cons ok_club_isInside .nil)))) ⟨rfl, rfl, by kernel_rfl, rfl, rfl, rfl⟩ (sm_club_Outside I_club_Outside) (cutsL (fun _ => rfl) (.cons lf_club_Outside_L9 .nil) (by kernel_rfl)) Tryz.func26 (by kernel_rfl) (by kernel_rfl)
abbrev T_Q_in : Type 1 := Int → Int → Int → {R : Type} → (Bool → Option R) → Option R
def Q_in_ (g : Nat) (a1 a2 a3 : Int) {R : Type} (k0 : Bool → Option R) : Option R :=
  (bif (decide (a2 ≤ a1)) then k0 (decide (a1 ≤ a3)) else k0 false)
noncomputable def Q_in [Fuel] : T_Q_in := @Q_in_ NN
def SS_Q_in (g : T_Q_in) : Spec A := fun args => match args with | [.d (.int .i64 a1), .d (.int .i64 a2), .d (.int .i64 a3)] => fun k => g a1 a2 a3 (fun z0 => k (.d (.bool z0)) [.undef, .undef, .undef]) | _ => fun _ => none
noncomputable def code_55 : Code := (Tryz.f55.body).getD .skip
noncomputable def E_Q_in (g : Nat) : Env A := mkE [] [] [] [] [] [] [] [] [] []
theorem sm_Q_in (g : Nat) : Same (SS_Q_in (@Q_in_ g)) (abody (E_Q_in g) Tryz.f55 code_55 0 [] [.asis] g) := by intro args; unfold SS_Q_in; split; exact .inr fun R k => (by kernel_rfl); exact .inl fun R k => rfl
theorem ok_Q_in [Fuel] : Ok 55 (SS_Q_in (@Q_in _)) := okF_of std .nil ⟨rfl, rfl, by kernel_rfl, rfl, rfl, rfl⟩ (sm_Q_in NN) (cuts0 (fun _ => rfl) (by kernel_rfl)) Tryz.func55 (by kernel_rfl) (by kernel_rfl)
abbrev T_Q_only : Type 1 := List UInt8 → List UInt8 → {R : Type} → (Bool → Option R) → Option R
structure C_Q_only where
  N : Nat
  strings_IndexByte : T_strings_IndexByte
def Q_only_L2 (g : C_Q_only) : Nat → List UInt8 → List UInt8 → Int → Int → {R : Type} → (Bool → Option R) → Option R → Option R
  | 0, _, _, _, _, _, _, _ => none
  | n + 1, v3, v4, v5, v6, _, e0, e1 => (bif (decide (v6 < v5)) then (get_ v3 v6 fun x9 => (g.strings_IndexByte v4 (x9.toNat : Int) (fun r10 => (bif (decide (r10 < 0)) then e0 false else Q_only_L2 g n v3 v4 v5 (w64 (v6 + 1)) e0 e1)))) else e1)
def Q_only_ (g : C_Q_only) (a1 a2 : List UInt8) {R : Type} (k0 : Bool → Option R) : Option R :=
  (Q_only_L2 g g.N a1 a2 (a1.length : Int) 0 (fun e11 => k0 e11) (k0 true))
noncomputable def I_Q_only [Fuel] : C_Q_only := ⟨NN, @strings_IndexByte _⟩
noncomputable def Q_only [Fuel] : T_Q_only := @Q_only_ I_Q_only
def SS_Q_only (g : T_Q_only) : Spec A := fun args => match args with | [.d (.str a1), .d (.str a2)] => fun k => g a1 a2 (fun z0 => k (.d (.bool z0)) [.undef, .undef]) | _ => fun _ => none
def sh_Q_only_L2 : SSt := mkSh 18 0 [(0, .str), (1, .str), (7, .int .i64), (8, .int .i64)] []
def LP_Q_only_L2 (g : C_Q_only) (n : Nat) : LPT A := fun ps => match ps with | [.d (.str p1), .d (.str p2), .d (.int .i64 p3), .d (.int .i64 p4)] => fun K => Q_only_L2 g n p1 p2 p3 p4 (fun z0 => K .ret (mkSt 18 0 [(4, .d (.bool z0))] [])) (K (.exit 0) (mkSt 18 0 [] [])) | _ => fun _ => none
noncomputable def code_102 : Code := (Tryz.f102.body).getD .skip
noncomputable def E_Q_only (g : C_Q_only) : Env A := mkE [(119, SS_strings_IndexByte g.strings_IndexByte)] [] [(2, ⟨[0, 1, 7, 8], [], [], []⟩)] [(2, ⟨[4], [], [], []⟩)] [(2, pieceOf sh_Q_only_L2 (LP_Q_only_L2 g g.N))] [] [] [] [] []
theorem ct_Q_only [Fuel] : NatTab (E_Q_only I_Q_only).C := ct_of (P := Tryz.prog) (T := T) (.cons ok_strings_IndexByte .nil) (by kernel_rfl)
noncomputable def cb_Q_only_L2 : Code := sub [1, 0, 1, 0, 0] code_102
theorem s_Q_only_L2 (g : C_Q_only) (n : Nat) : StepOk (E_Q_only g) g.N cb_Q_only_L2 sh_Q_only_L2 (LP_Q_only_L2 g) n := by intro ps; unfold LP_Q_only_L2; split; exact .inr fun R K => (by kernel_rfl); exact .inl fun R K => rfl
theorem lf_Q_only_L2 [Fuel] : LoopFine (E_Q_only I_Q_only) NN cb_Q_only_L2 := fine_loop sh_Q_only_L2 (LP_Q_only_L2 I_Q_only) (by kernel_rfl) ct_Q_only (cuts0 (fun _ => rfl) (by kernel_rfl)) (fun ps R K => by unfold LP_Q_only_L2; split <;> (try unfold Q_only_L2) <;> rfl) (s_Q_only_L2 I_Q_only)
theorem sm_Q_only (g : C_Q_only) : Same (SS_Q_only (@Q_only_ g)) (abody (E_Q_only g) Tryz.f102 code_102 0 [] [.asis] g.N) := by intro args; unfold SS_Q_only; split; exact .inr fun R k => (by kernel_rfl); exact .inl fun R k => rfl
theorem ok_Q_only [Fuel] : Ok 102 (SS_Q_only (@Q_only _)) := okF_of std (.cons ok_strings_IndexByte .nil) ⟨rfl, rfl, by kernel_rfl, rfl, rfl, rfl⟩ (sm_Q_only I_Q_only) (cutsL (fun _ => rfl) (.cons lf_Q_only_L2 .nil) (by kernel_rfl)) Tryz.func102 (by kernel_rfl) (by kernel_rfl)
abbrev T_Q_Key : Type 1 := List UInt8 → {R : Type} → (Bool → Option R) → Option R
structure C_Q_Key where
  N : Nat
  Q_in : T_Q_in
  Q_only : T_Q_only
def Q_Key_ (g : C_Q_Key) (a1 : List UInt8) {R : Type} (k0 : Bool → Option R) : Option R :=
  (g.Q_in (a1.length : Int) 1 40 (fun r2 => (bif r2 then (bif (decide (0 ≤ 1) && decide (1 ≤ (a1.length : Int))) then (g.Q_only (a1.take (1 : Int).toNat) [97, 98, 99, 100, 101, 102, 103, 104, 105, 106, 107, 108, 109, 110, 111, 112, 113, 114, 115, 116, 117, 118, 119, 120, 121, 122] (fun r3 => (bif r3 then (g.Q_only a1 [97, 98, 99, 100, 101, 102, 103, 104, 105, 106, 107, 108, 109, 110, 111, 112, 113, 114, 115, 116, 117, 118, 119, 120, 121, 122, 48, 49, 50, 51, 52, 53, 54, 55, 56, 57, 45, 95] (fun r4 => k0 r4)) else k0 false))) else none) else k0 false)))
noncomputable def I_Q_Key [Fuel] : C_Q_Key := ⟨NN, @Q_in _, @Q_only _⟩
noncomputable def Q_Key [Fuel] : T_Q_Key := @Q_Key_ I_Q_Key
def SS_Q_Key (g : T_Q_Key) : Spec A := fun args => match args with | [.d (.str a1)] => fun k => g a1 (fun z0 => k (.d (.bool z0)) [.undef]) | _ => fun _ => none
noncomputable def code_54 : Code := (Tryz.f54.body).getD .skip
noncomputable def E_Q_Key (g : C_Q_Key) : Env A := mkE [(55, SS_Q_in g.Q_in), (102, SS_Q_only g.Q_only)] [] [] [] [] [] [] [] [] []
theorem sm_Q_Key (g : C_Q_Key) : Same (SS_Q_Key (@Q_Key_ g)) (abody (E_Q_Key g) Tryz.f54 code_54 0 [] [.asis] g.N) := by intro args; unfold SS_Q_Key; split; exact .inr fun R k => (by kernel_rfl); exact .inl fun R k => rfl
theorem ok_Q_Key [Fuel] : Ok 54 (SS_Q_Key (@Q_Key _)) := okF_of std (.cons ok_Q_in (.cons ok_Q_only .nil)) ⟨rfl, rfl, by kernel_rfl, rfl, rfl, rfl⟩ (sm_Q_Key I_Q_Key) (cuts0 (fun _ => rfl) (by kernel_rfl)) Tryz.func54 (by kernel_rfl) (by kernel_rfl)
abbrev T_slices_Index__int : Type 1 := List Int → Int → {R : Type} → (Int → Option R) → Option R
def slices_Index__int_L2 (g : Nat) : Nat → List Int → Int → Int → Int → {R : Type} → (Int → Option R) → Option R → Option R
  | 0, _, _, _, _, _, _, _ => none
  | n + 1, v3, v4, v5, v6, _, e0, e1 => (bif (decide (v6 < v5)) then (get_ v3 v6 fun x8 => (bif (v4 == x8) then e0 v6 else slices_Index__int_L2 g n v3 v4 v5 (w64 (v6 + 1)) e0 e1)) else e1)
def slices_Index__int_ (g : Nat) (a1 : List Int) (a2 : Int) {R : Type} (k0 : Int → Option R) : Option R :=
  (slices_Index__int_L2 g g a1 a2 (a1.length : Int) 0 (fun e9 => k0 e9) (k0 (-1)))
noncomputable def slices_Index__int [Fuel] : T_slices_Index__int := @slices_Index__int_ NN
def SS_slices_Index__int (g : T_slices_Index__int) : Spec A := fun args => match args with | [.d (.sl 3 a1), .d (.int .i64 a2)] => fun k => g a1 a2 (fun z0 => k (.d (.int .i64 z0)) [.undef, .undef]) | _ => fun _ => none
def sh_slices_Index__int_L2 : SSt := mkSh 19 0 [(0, .sl 3), (1, .int .i64), (7, .int .i64), (8, .int .i64)] []
def LP_slices_Index__int_L2 (g : Nat) (n : Nat) : LPT A := fun ps => match ps with | [.d (.sl 3 p1), .d (.int .i64 p2), .d (.int .i64 p3), .d (.int .i64 p4)] => fun K => slices_Index__int_L2 g n p1 p2 p3 p4 (fun z0 => K .ret (mkSt 19 0 [(4, .d (.int .i64 z0))] [])) (K (.exit 0) (mkSt 19 0 [] [])) | _ => fun _ => none
noncomputable def code_161 : Code := (Tryz.f161.body).getD .skip
noncomputable def E_slices_Index__int (g : Nat) : Env A := mkE [] [] [(2, ⟨[0, 1, 7, 8], [], [], []⟩)] [(2, ⟨[4], [], [], []⟩)] [(2, pieceOf sh_slices_Index__int_L2 (LP_slices_Index__int_L2 g g))] [] [] [] [] []
theorem ct_slices_Index__int [Fuel] : NatTab (E_slices_Index__int NN).C := ct_of (P := Tryz.prog) (T := T) .nil (by kernel_rfl)
noncomputable def cb_slices_Index__int_L2 : Code := sub [1, 0, 1, 0, 0] code_161
theorem s_slices_Index__int_L2 (g : Nat) (n : Nat) : StepOk (E_slices_Index__int g) g cb_slices_Index__int_L2 sh_slices_Index__int_L2 (LP_slices_Index__int_L2 g) n := by intro ps; unfold LP_slices_Index__int_L2; split; exact .inr fun R K => (by kernel_rfl); exact .inl fun R K => rfl
theorem lf_slices_Index__int_L2 [Fuel] : LoopFine (E_slices_Index__int NN) NN cb_slices_Index__int_L2 := fine_loop sh_slices_Index__int_L2 (LP_slices_Index__int_L2 NN) (by kernel_rfl) ct_slices_Index__int (cuts0 (fun _ => rfl) (by kernel_rfl)) (fun ps R K => by unfold LP_slices_Index__int_L2; split <;> (try unfold slices_Index__int_L2) <;> rfl) (s_slices_Index__int_L2 NN)
theorem sm_slices_Index__int (g : Nat) : Same (SS_slices_Index__int (@slices_Index__int_ g)) (abody (E_slices_Index__int g) Tryz.f161 code_161 0 [] [.asis] g) := by intro args; unfold SS_slices_Index__int; split; exact .inr fun R k => (by kernel_rfl); exact .inl fun R k => rfl
theorem ok_slices_Index__int [Fuel] : Ok 161 (SS_slices_Index__int (@slices_Index__int _)) := okF_of std .nil ⟨rfl, rfl, by kernel_rfl, rfl, rfl, rfl⟩ (sm_slices_Index__int NN) (cutsL (fun _ => rfl) (.cons lf_slices_Index__int_L2 .nil) (by kernel_rfl)) Tryz.func161 (by kernel_rfl) (by kernel_rfl)
abbrev T_slices_Contains__int : Type 1 := List Int → Int → {R : Type} → (Bool → Option R) → Option R
structure C_slices_Contains__int where
  N : Nat
  slices_Index__int : T_slices_Index__int
def slices_Contains__int_ (g : C_slices_Contains__int) (a1 : List Int) (a2 : Int) {R : Type} (k0 : Bool → Option R) : Option R :=
  (g.slices_Index__int a1 a2 (fun r3 => k0 (decide (r3 ≥ 0))))
noncomputable def I_slices_Contains__int [Fuel] : C_slices_Contains__int := ⟨NN, @slices_Index__int _⟩
noncomputable def slices_Contains__int [Fuel] : T_slices_Contains__int := @slices_Contains__int_ I_slices_Contains__int
def SS_slices_Contains__int (g : T_slices_Contains__int) : Spec A := fun args => match args with | [.d (.sl 3 a1), .d (.int .i64 a2)] => fun k => g a1 a2 (fun z0 => k (.d (.bool z0)) [.undef, .undef]) | _ => fun _ => none
noncomputable def code_122 : Code := (Tryz.f122.body).getD .skip
noncomputable def E_slices_Contains__int (g : C_slices_Contains__int) : Env A := mkE [(161, SS_slices_Index__int g.slices_Index__int)] [] [] [] [] [] [] [] [] []
theorem sm_slices_Contains__int (g : C_slices_Contains__int) : Same (SS_slices_Contains__int (@slices_Contains__int_ g)) (abody (E_slices_Contains__int g) Tryz.f122 code_122 0 [] [.asis] g.N) := by intro args; unfold SS_slices_Contains__int; split; exact .inr fun R k => (by kernel_rfl); exact .inl fun R k => rfl
theorem ok_slices_Contains__int [Fuel] : Ok 122 (SS_slices_Contains__int (@slices_Contains__int _)) := okF_of std (.cons ok_slices_Index__int .nil) ⟨rfl, rfl, by kernel_rfl, rfl, rfl, rfl⟩ (sm_slices_Contains__int I_slices_Contains__int) (cuts0 (fun _ => rfl) (by kernel_rfl)) Tryz.func122 (by kernel_rfl) (by kernel_rfl)
abbrev T_Q_Square : Type 1 := List UInt8 → {R : Type} → (Bool → Option R) → Option R
structure C_Q_Square where
  N : Nat
  Q_only : T_Q_only
  slices_Contains__int : T_slices_Contains__int
def Q_Square_L5 (g : C_Q_Square) : Nat → List UInt8 → Int → Int → List (List UInt8) → {R : Type} → (Bool → Option R) → Option R → Option R
  | 0, _, _, _, _, _, _, _ => none
  | n + 1, v3, v4, v5, v6, _, e0, e1 => (bif (decide (v5 < v4)) then (bif (decide (0 ≤ v5) && (decide (v5 ≤ (w64 (v5 + 1))) && decide ((w64 (v5 + 1)) ≤ (v3.length : Int)))) then (inr v6 v5 (at_ v6 v5 fun x9 => (g.Q_only ((v3.take ((w64 (v5 + 1)) : Int).toNat).drop (v5 : Int).toNat) x9 (fun r10 => (bif (!r10) then e0 false else Q_Square_L5 g n v3 v4 (w64 (v5 + 1)) v6 e0 e1))))) else none) else e1)
def Q_Square_ (g : C_Q_Square) (a1 : List UInt8) {R : Type} (k0 : Bool → Option R) : Option R :=
  (bif (decide (0 ≤ 18) && decide (18 ≤ ([97, 98, 99, 100, 101, 102, 103, 104, 105, 106, 107, 108, 109, 110, 111, 112, 113, 114, 115, 116, 117, 118, 119, 120, 121, 122].length : Int))) then (bif (decide (0 ≤ 18) && decide (18 ≤ ([97, 98, 99, 100, 101, 102, 103, 104, 105, 106, 107, 108, 109, 110, 111, 112, 113, 114, 115, 116, 117, 118, 119, 120, 121, 122].length : Int))) then (bif (decide (0 ≤ 24) && decide (24 ≤ ([97, 98, 99, 100, 101, 102, 103, 104, 105, 106, 107, 108, 109, 110, 111, 112, 113, 114, 115, 116, 117, 118, 119, 120, 121, 122].length : Int))) then (bif (decide (0 ≤ 24) && decide (24 ≤ ([97, 98, 99, 100, 101, 102, 103, 104, 105, 106, 107, 108, 109, 110, 111, 112, 113, 114, 115, 116, 117, 118, 119, 120, 121, 122].length : Int))) then (g.slices_Contains__int [2, 4, 6] (a1.length : Int) (fun r2 => (bif (!r2) then k0 false else (Q_Square_L5 g g.N a1 (a1.length : Int) 0 [([97, 98, 99, 100, 101, 102, 103, 104, 105, 106, 107, 108, 109, 110, 111, 112, 113, 114, 115, 116, 117, 118, 119, 120, 121, 122].take (18 : Int).toNat), ([97, 98, 99, 100, 101, 102, 103, 104, 105, 106, 107, 108, 109, 110, 111, 112, 113, 114, 115, 116, 117, 118, 119, 120, 121, 122].take (18 : Int).toNat), [48, 49, 50, 51, 52, 53, 54, 55, 56, 57], [48, 49, 50, 51, 52, 53, 54, 55, 56, 57], ([97, 98, 99, 100, 101, 102, 103, 104, 105, 106, 107, 108, 109, 110, 111, 112, 113, 114, 115, 116, 117, 118, 119, 120, 121, 122].take (24 : Int).toNat), ([97, 98, 99, 100, 101, 102, 103, 104, 105, 106, 107, 108, 109, 110, 111, 112, 113, 114, 115, 116, 117, 118, 119, 120, 121, 122].take (24 : Int).toNat)] (fun e11 => k0 e11) (k0 true))))) else none) else none) else none) else none)
noncomputable def I_Q_Square [Fuel] : C_Q_Square := ⟨NN, @Q_only _, @slices_Contains__int _⟩
noncomputable def Q_Square [Fuel] : T_Q_Square := @Q_Square_ I_Q_Square
def SS_Q_Square (g : T_Q_Square) : Spec A := fun args => match args with | [.d (.str a1)] => fun k => g a1 (fun z0 => k (.d (.bool z0)) [.undef]) | _ => fun _ => none
def sh_Q_Square_L5 : SSt := mkSh 32 2 [(0, .str), (3, .own 9 0), (16, .int .i64), (17, .int .i64)] [(0, .row 9)]
def LP_Q_Square_L5 (g : C_Q_Square) (n : Nat) : LPT A := fun ps => match ps with | [.d (.str p1), .d (.int .i64 p2), .d (.int .i64 p3), .d (.sl 9 p4)] => fun K => Q_Square_L5 g n p1 p2 p3 p4 (fun z0 => K .ret (mkSt 32 2 [(2, .d (.bool z0))] [])) (K (.exit 0) (mkSt 32 2 [] [])) | _ => fun _ => none
noncomputable def code_81 : Code := (Tryz.f81.body).getD .skip
noncomputable def E_Q_Square (g : C_Q_Square) : Env A := mkE [(102, SS_Q_only g.Q_only), (122, SS_slices_Contains__int g.slices_Contains__int)] [(9, [0]), (10, [1])] [(5, ⟨[0, 3, 16, 17], [], [0], []⟩)] [(5, ⟨[2], [], [], []⟩)] [(5, pieceOf sh_Q_Square_L5 (LP_Q_Square_L5 g g.N))] [] [] [] [] []
theorem ct_Q_Square [Fuel] : NatTab (E_Q_Square I_Q_Square).C := ct_of (P := Tryz.prog) (T := T) (.cons ok_Q_only (.cons ok_slices_Contains__int .nil)) (by kernel_rfl)
noncomputable def cb_Q_Square_L5 : Code := sub [1, 1, 1, 0, 1, 0, 0] code_81
theorem s_Q_Square_L5 (g : C_Q_Square) (n : Nat) : StepOk (E_Q_Square g) g.N cb_Q_Square_L5 sh_Q_Square_L5 (LP_Q_Square_L5 g) n := by intro ps; unfold LP_Q_Square_L5; split; exact .inr fun R K => (by kernel_rfl); exact .inl fun R K => rfl
theorem lf_Q_Square_L5 [Fuel] : LoopFine (E_Q_Square I_Q_Square) NN cb_Q_Square_L5 := fine_loop sh_Q_Square_L5 (LP_Q_Square_L5 I_Q_Square) (by kernel_rfl) ct_Q_Square (cuts0 (fun _ => rfl) (by kernel_rfl)) (fun ps R K => by unfold LP_Q_Square_L5; split <;> (try unfold Q_Square_L5) <;> rfl) (s_Q_Square_L5 I_Q_Square)
theorem sm_Q_Square (g : C_Q_Square) : Same (SS_Q_Square (@Q_Square_ g)) (abody (E_Q_Square g) Tryz.f81 code_81 2 [] [.asis] g.N) := by intro args; unfold SS_Q_Square; split; exact .inr fun R k => (by kernel_rfl); exact .inl fun R k => rfl
theorem ok_Q_Square [Fuel] : Ok 81 (SS_Q_Square (@Q_Square _)) := okF_of std (.cons ok_Q_only (.cons ok_slices_Contains__int .nil)) ⟨rfl, rfl, by kernel_rfl, rfl, rfl, rfl⟩ (sm_Q_Square I_Q_Square) (cutsL (fun _ => rfl) (.cons lf_Q_Square_L5 .nil) (by kernel_rfl)) Tryz.func81 (by kernel_rfl) (by kernel_rfl)
abbrev T_Q_ClubsFault : Type 1 := List G_Club → {R : Type} → (Int → Option R) → Option R
structure C_Q_ClubsFault where
  N : Nat
  Q_Key : T_Q_Key
  Q_Square : T_Q_Square
def Q_ClubsFault_L15 (g : C_Q_ClubsFault) : Nat → List UInt8 → List G_Club → Int → Int → List (List UInt8) → Int → Int → G_Club → {R : Type} → (Int → List UInt8 → List G_Club → Int → Int → Option R) → (List UInt8 → List G_Club → Int → Int → Option R) → Option R
  | 0, _, _, _, _, _, _, _, _, _, _, _ => none
  | n + 1, v33, v34, v35, v36, v37, v38, v39, v40, _, e0, e1 => (bif (decide (v39 < v38)) then (get_ v37 v39 fun x44 => (g.Q_Square x44 (fun r45 => (bif (!r45) then e0 3 v33 v34 v35 v36 else (bif (decide (v39 > 0)) then (get_ v40.f_Squares (w64 (v39 - 1)) fun x46 => (bif (Op.bytesLess x44 x46 || x44 == x46) then e0 7 v33 v34 v35 v36 else Q_ClubsFault_L15 g n v33 v34 v35 v36 v37 v38 (w64 (v39 + 1)) v40 e0 e1)) else Q_ClubsFault_L15 g n v33 v34 v35 v36 v37 v38 (w64 (v39 + 1)) v40 e0 e1))))) else e1 v33 v34 v35 v36)
def Q_ClubsFault_L5 (g : C_Q_ClubsFault) : Nat → List UInt8 → List G_Club → Int → Int → {R : Type} → (Int → Option R) → Option R → Option R
  | 0, _, _, _, _, _, _, _ => none
  | n + 1, v2, v3, v4, v5, _, e0, e1 => (bif (decide (v5 < v4)) then (get_ v3 v5 fun x31 => (g.Q_Key x31.f_Key (fun r32 => (bif (!r32) then e0 5 else (bif (Op.bytesLess x31.f_Key v2 || x31.f_Key == v2) then e0 7 else (bif (decide ((x31.f_Squares.length : Int) > 100)) then e0 2 else (Q_ClubsFault_L15 g g.N x31.f_Key v3 v4 v5 x31.f_Squares (x31.f_Squares.length : Int) 0 x31 (fun e47 e48 e49 e50 e51 => e0 e47) (fun e52 e53 e54 e55 => Q_ClubsFault_L5 g n e52 e53 e54 (w64 (e55 + 1)) e0 e1)))))))) else e1)
def Q_ClubsFault_ (g : C_Q_ClubsFault) (a1 : List G_Club) {R : Type} (k0 : Int → Option R) : Option R :=
  (bif (decide ((a1.length : Int) > 200)) then k0 2 else (Q_ClubsFault_L5 g g.N [] a1 (a1.length : Int) 0 (fun e56 => k0 e56) (k0 0)))
noncomputable def I_Q_ClubsFault [Fuel] : C_Q_ClubsFault := ⟨NN, @Q_Key _, @Q_Square _⟩
noncomputable def Q_ClubsFault [Fuel] : T_Q_ClubsFault := @Q_ClubsFault_ I_Q_ClubsFault
def SS_Q_ClubsFault (g : T_Q_ClubsFault) : Spec A := fun args => match args with | [.d (.sl 106 a1)] => fun k => g a1 (fun z0 => k (.d (.int .i64 z0)) [.undef]) | _ => fun _ => none
def sh_Q_ClubsFault_L15 : SSt := mkSh 59 1 [(3, .str), (5, .ptr 0 0), (11, .sl 106), (12, .int .i64), (13, .int .i64), (35, .sl 9), (36, .int .i64), (37, .int .i64)] [(0, .box [.str, .sl 9])]
def LP_Q_ClubsFault_L15 (g : C_Q_ClubsFault) (n : Nat) : LPT A := fun ps => match ps with | [.d (.str p1), .d (.sl 106 p2), .d (.int .i64 p3), .d (.int .i64 p4), .d (.sl 9 p5), .d (.int .i64 p6), .d (.int .i64 p7), .d (.str p8), .d (.sl 9 p9)] => fun K => Q_ClubsFault_L15 g n p1 p2 p3 p4 p5 p6 p7 ⟨p8, p9⟩ (fun z0 z1 z2 z3 z4 => K .ret (mkSt 59 1 [(2, .d (.int .i64 z0)), (3, .d (.str z1)), (11, .d (.sl 106 z2)), (12, .d (.int .i64 z3)), (13, .d (.int .i64 z4))] [])) (fun z0 z1 z2 z3 => K (.exit 3) (mkSt 59 1 [(3, .d (.str z0)), (11, .d (.sl 106 z1)), (12, .d (.int .i64 z2)), (13, .d (.int .i64 z3))] [])) | _ => fun _ => none
def sh_Q_ClubsFault_L5 : SSt := mkSh 59 1 [(3, .str), (11, .sl 106), (12, .int .i64), (13, .int .i64)] []
def LP_Q_ClubsFault_L5 (g : C_Q_ClubsFault) (n : Nat) : LPT A := fun ps => match ps with | [.d (.str p1), .d (.sl 106 p2), .d (.int .i64 p3), .d (.int .i64 p4)] => fun K => Q_ClubsFault_L5 g n p1 p2 p3 p4 (fun z0 => K .ret (mkSt 59 1 [(2, .d (.int .i64 z0))] [])) (K (.exit 0) (mkSt 59 1 [] [])) | _ => fun _ => none
noncomputable def code_33 : Code := (Tryz.f33.body).getD .skip
noncomputable def E_Q_ClubsFault (g : C_Q_ClubsFault) : Env A := mkE [(54, SS_Q_Key g.Q_Key), (81, SS_Q_Square g.Q_Square)] [(5, [0])] [(15, ⟨[3, 5, 11, 12, 13, 35, 36, 37], [], [0], []⟩), (5, ⟨[3, 11, 12, 13], [], [], []⟩)] [(15, ⟨[2, 3, 11, 12, 13], [], [], []⟩), (5, ⟨[2], [], [], []⟩)] [(15, pieceOf sh_Q_ClubsFault_L15 (LP_Q_ClubsFault_L15 g g.N)), (5, pieceOf sh_Q_ClubsFault_L5 (LP_Q_ClubsFault_L5 g g.N))] [] [] [] [] []
theorem ct_Q_ClubsFault [Fuel] : NatTab (E_Q_ClubsFault I_Q_ClubsFault).C := ct_of (P := Tryz.prog) (T := T) (.cons ok_Q_Key (.cons ok_Q_Square .nil)) (by kernel_rfl)
noncomputable def cb_Q_ClubsFault_L15 : Code := sub [1, 1, 1, 0, 1, 0, 0, 1, 1, 0, 0, 1, 1, 1, 1, 0, 0] code_33
theorem s_Q_ClubsFault_L15 (g : C_Q_ClubsFault) (n : Nat) : StepOk (E_Q_ClubsFault g) g.N cb_Q_ClubsFault_L15 sh_Q_ClubsFault_L15 (LP_Q_ClubsFault_L15 g) n := by intro ps; unfold LP_Q_ClubsFault_L15; split; exact .inr fun R K => (by kernel_rfl); exact .inl fun R K => rfl
theorem lf_Q_ClubsFault_L15 [Fuel] : LoopFine (E_Q_ClubsFault I_Q_ClubsFault) NN cb_Q_ClubsFault_L15 := fine_loop sh_Q_ClubsFault_L15 (LP_Q_ClubsFault_L15 I_Q_ClubsFault) (by kernel_rfl) ct_Q_ClubsFault (cuts0 (fun _ => rfl) (by kernel_rfl)) (fun ps R K => by unfold LP_Q_ClubsFault_L15; split <;> (try unfold Q_ClubsFault_L15) <;> rfl) (s_Q_ClubsFault_L15 I_Q_ClubsFault)
noncomputable def cb_Q_ClubsFault_L5 : Code := sub [1, 1, 1, 0, 1, 0, 0] code_33
theorem s_Q_ClubsFault_L5 (g : C_Q_ClubsFault) (n : Nat) : StepOk (E_Q_ClubsFault g) g.N cb_Q_ClubsFault_L5 sh_Q_ClubsFault_L5 (LP_Q_ClubsFault_L5 g) n := by intro ps; unfold LP_Q_ClubsFault_L5; split; exact .inr fun R K => (by kernel_rfl); exact .inl fun R K => rfl
theorem lf_Q_ClubsFault_L5 [Fuel] : LoopFine (E_Q_ClubsFault I_Q_ClubsFault) NN cb_Q_ClubsFault_L5 := fine_loop sh_Q_ClubsFault_L5 (LP_Q_ClubsFault_L5 I_Q_ClubsFault) (by kernel_rfl) ct_Q_ClubsFault (cutsL (fun _ => rfl) (.cons lf_Q_ClubsFault_L15 .nil) (by kernel_rfl)) (fun ps R K => by unfold LP_Q_ClubsFault_L5; split <;> (try unfold Q_ClubsFault_L5) <;> rfl) (s_Q_ClubsFault_L5 I_Q_ClubsFault)
theorem sm_Q_ClubsFault (g : C_Q_ClubsFault) : Same (SS_Q_ClubsFault (@Q_ClubsFault_ g)) (abody (E_Q_ClubsFault g) Tryz.f33 code_33 1 [] [.asis] g.N) := by intro args; unfold SS_Q_ClubsFault; split; exact .inr fun R k => (by kernel_rfl); exact .inl fun R k => rfl
theorem ok_Q_ClubsFault [Fuel] : Ok 33 (SS_Q_ClubsFault (@Q_ClubsFault _)) := okF_of std (.cons ok_Q_Key (.cons ok_Q_Square .nil)) ⟨rfl, rfl, by kernel_rfl, rfl, rfl, rfl⟩ (sm_Q_ClubsFault I_Q_ClubsFault) (cutsL (fun _ => rfl) (.cons lf_Q_ClubsFault_L15 (.cons lf_Q_ClubsFault_L5 .nil)) (by kernel_rfl)) Tryz.func33 (by kernel_rfl) (by kernel_rfl)
abbrev T_R_in : Type 1 := Int → Int → Int → {R : Type} → (Bool → Option R) → Option R
def R_in_ (g : Nat) (a1 a2 a3 : Int) {R : Type} (k0 : Bool → Option R) : Option R :=
  (bif (decide (a2 ≤ a1)) then k0 (decide (a1 ≤ a3)) else k0 false)
noncomputable def R_in [Fuel] : T_R_in := @R_in_ NN
def SS_R_in (g : T_R_in) : Spec A := fun args => match args with | [.d (.int .i64 a1), .d (.int .i64 a2), .d (.int .i64 a3)] => fun k => g a1 a2 a3 (fun z0 => k (.d (.bool z0)) [.undef, .undef, .undef]) | _ => fun _ => none
noncomputable def code_184 : Code := (Tryz.f184.body).getD .skip
noncomputable def E_R_in (g : Nat) : Env A := mkE [] [] [] [] [] [] [] [] [] []
theorem sm_R_in (g : Nat) : Same (SS_R_in (@R_in_ g)) (abody (E_R_in g) Tryz.f184 code_184 0 [] [.asis] g) := by intro args; unfold SS_R_in; split; exact .inr fun R k => (by kernel_rfl); exact .inl fun R k => rfl
theorem ok_R_in [Fuel] : Ok 184 (SS_R_in (@R_in _)) := okF_of std .nil ⟨rfl, rfl, by kernel_rfl, rfl, rfl, rfl⟩ (sm_R_in NN) (cuts0 (fun _ => rfl) (by kernel_rfl)) Tryz.func184 (by kernel_rfl) (by kernel_rfl)
end Go.Am
