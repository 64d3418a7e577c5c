/- The functions of the program as Lean functions, each shown to be what the code computes, part 5. No condition: lemmas for the claim. -/
import Derived.Test.YtnkoiigdcbjenaaGreatDoorF0
import Derived.Test.YtnkoiigdcbjenaaGreatDoorFSh
import Derived.Test.YtnkoiigdcbjenaaGreatDoorF1
import Derived.Test.YtnkoiigdcbjenaaGreatDoorF3
import Derived.Test.YtnkoiigdcbjenaaGreatDoorF4
set_option linter.unusedVariables false
set_option maxRecDepth 100000
namespace Go.Am
open Go Go.Proofs
abbrev T_strings_Index : Type 1 := List UInt8 → List UInt8 → {R : Type} → (Int → Option R) → Option R
structure C_strings_Index where
  N : Nat
  stringslite_Index : T_stringslite_Index
def strings_Index_ (g : C_strings_Index) (a1 a2 : List UInt8) {R : Type} (k0 : Int → Option R) : Option R :=
  (g.stringslite_Index a1 a2 (fun r3 => k0 r3))
noncomputable def I_strings_Index [Fuel] : C_strings_Index := ⟨NN, @stringslite_Index _⟩
noncomputable def strings_Index [Fuel] : T_strings_Index := @strings_Index_ I_strings_Index
def SS_strings_Index (g : T_strings_Index) : Spec A := fun args => match args with | [.d (.str a1), .d (.str a2)] => fun k => g a1 a2 (fun z0 => k (.d (.int .i64 z0)) [.undef, .undef]) | _ => fun _ => none
noncomputable def code_186 : Code := (Tryz.f186.body).getD .skip
noncomputable def E_strings_Index (g : C_strings_Index) : Env A := mkE [(217, SS_stringslite_Index g.stringslite_Index)] [] [] [] [] [] [] [] [] []
theorem sm_strings_Index (g : C_strings_Index) : Same (SS_strings_Index (@strings_Index_ g)) (abody (E_strings_Index g) Tryz.f186 code_186 0 [] [.asis] g.N) := by intro args; unfold SS_strings_Index; split; exact .inr fun R k => (by kernel_rfl); exact .inl fun R k => rfl
theorem ok_strings_Index [Fuel] : Ok 186 (SS_strings_Index (@strings_Index _)) := okF_of std (.cons ok_stringslite_Index .nil) ⟨rfl, rfl, by kernel_rfl, rfl, rfl⟩ (sm_strings_Index I_strings_Index) (cuts0 (fun _ => rfl) (by kernel_rfl)) Tryz.func186 (by kernel_rfl) (by kernel_rfl)
abbrev T_strings_Contains : Type 1 := List UInt8 → List UInt8 → {R : Type} → (Bool → Option R) → Option R
structure C_strings_Contains where
  N : Nat
  strings_Index : T_strings_Index
def strings_Contains_ (g : C_strings_Contains) (a1 a2 : List UInt8) {R : Type} (k0 : Bool → Option R) : Option R :=
  (g.strings_Index a1 a2 (fun r3 => k0 (decide (r3 ≥ 0))))
noncomputable def I_strings_Contains [Fuel] : C_strings_Contains := ⟨NN, @strings_Index _⟩
noncomputable def strings_Contains [Fuel] : T_strings_Contains := @strings_Contains_ I_strings_Contains
def SS_strings_Contains (g : T_strings_Contains) : Spec A := fun args => match args with | [.d (.str a1), .d (.str a2)] => fun k => g a1 a2 (fun z0 => k (.d (.bool z0)) [.undef, .undef]) | _ => fun _ => none
noncomputable def code_138 : Code := (Tryz.f138.body).getD .skip
noncomputable def E_strings_Contains (g : C_strings_Contains) : Env A := mkE [(186, SS_strings_Index g.strings_Index)] [] [] [] [] [] [] [] [] []
theorem sm_strings_Contains (g : C_strings_Contains) : Same (SS_strings_Contains (@strings_Contains_ g)) (abody (E_strings_Contains g) Tryz.f138 code_138 0 [] [.asis] g.N) := by intro args; unfold SS_strings_Contains; split; exact .inr fun R k => (by kernel_rfl); exact .inl fun R k => rfl
theorem ok_strings_Contains [Fuel] : Ok 138 (SS_strings_Contains (@strings_Contains _)) := okF_of std (.cons ok_strings_Index .nil) ⟨rfl, rfl, by kernel_rfl, rfl, rfl⟩ (sm_strings_Contains I_strings_Contains) (cuts0 (fun _ => rfl) (by kernel_rfl)) Tryz.func138 (by kernel_rfl) (by kernel_rfl)
abbrev T_R_PartsOf : Type 1 := List UInt8 → {R : Type} → (G_Parts → Bool → Option R) → Option R
structure C_R_PartsOf where
  N : Nat
  strings_Cut : T_strings_Cut
  R_PartsOf_1 : T_R_PartsOf_1
  R_baseAt : T_R_baseAt
  R_begin : T_R_begin
  strings_Contains : T_strings_Contains
def R_PartsOf_ (g : C_R_PartsOf) (a1 : List UInt8) {R : Type} (k0 : G_Parts → Bool → Option R) : Option R :=
  (g.strings_Cut a1 [47] (fun r2 r3 r4 => (bif (decide ((a1.length : Int) > 14)) then k0 (⟨[], [], [], 0, []⟩ : G_Parts) false else (bif (!r4) then (g.R_baseAt r2 (fun r5 => (bif (decide (r5 < 0)) then k0 (⟨[], [], [], 0, []⟩ : G_Parts) false else (g.R_PartsOf_1 r2 (fun r6 => k0 r6 true))))) else (g.R_baseAt r3 (fun r7 => (bif (decide (r7 ≥ 0)) then (g.R_begin r2 (fun r8 => (bif r8 then (g.R_PartsOf_1 r3 (fun r9 => k0 (⟨r9.f_Base, r9.f_Prefix, r9.f_Suffix, 1, r2⟩ : G_Parts) true)) else (g.R_baseAt r2 (fun r10 => (bif (decide (r10 < 0)) then k0 (⟨[], [], [], 0, []⟩ : G_Parts) false else (g.R_PartsOf_1 r2 (fun r11 => (bif (r3 == [112]) then k0 (⟨r11.f_Base, r11.f_Prefix, r11.f_Suffix, 3, r11.f_Added⟩ : G_Parts) true else (bif (r3 == [109]) then k0 (⟨r11.f_Base, r11.f_Prefix, r11.f_Suffix, 4, r11.f_Added⟩ : G_Parts) true else (bif (r3 == [109, 109]) then k0 (⟨r11.f_Base, r11.f_Prefix, r11.f_Suffix, 5, r11.f_Added⟩ : G_Parts) true else (bif (r3 == [97, 109]) then k0 (⟨r11.f_Base, r11.f_Prefix, r11.f_Suffix, 6, r11.f_Added⟩ : G_Parts) true else (bif ((r3.length : Int) == 1) then (g.strings_Contains [48, 49, 50, 51, 52, 53, 54, 55, 56, 57] r3 (fun r12 => (bif r12 then k0 (⟨r11.f_Base, r11.f_Prefix, r11.f_Suffix, 2, r3⟩ : G_Parts) true else (g.R_begin r3 (fun r13 => (bif r13 then k0 (⟨r11.f_Base, r11.f_Prefix, r11.f_Suffix, 1, r3⟩ : G_Parts) true else k0 (⟨[], [], [], 0, []⟩ : G_Parts) false)))))) else (g.R_begin r3 (fun r14 => (bif r14 then k0 (⟨r11.f_Base, r11.f_Prefix, r11.f_Suffix, 1, r3⟩ : G_Parts) true else k0 (⟨[], [], [], 0, []⟩ : G_Parts) false)))))))))))))))) else (g.R_baseAt r2 (fun r15 => (bif (decide (r15 < 0)) then k0 (⟨[], [], [], 0, []⟩ : G_Parts) false else (g.R_PartsOf_1 r2 (fun r16 => (bif (r3 == [112]) then k0 (⟨r16.f_Base, r16.f_Prefix, r16.f_Suffix, 3, r16.f_Added⟩ : G_Parts) true else (bif (r3 == [109]) then k0 (⟨r16.f_Base, r16.f_Prefix, r16.f_Suffix, 4, r16.f_Added⟩ : G_Parts) true else (bif (r3 == [109, 109]) then k0 (⟨r16.f_Base, r16.f_Prefix, r16.f_Suffix, 5, r16.f_Added⟩ : G_Parts) true else (bif (r3 == [97, 109]) then k0 (⟨r16.f_Base, r16.f_Prefix, r16.f_Suffix, 6, r16.f_Added⟩ : G_Parts) true else (bif ((r3.length : Int) == 1) then (g.strings_Contains [48, 49, 50, 51, 52, 53, 54, 55, 56, 57] r3 (fun r17 => (bif r17 then k0 (⟨r16.f_Base, r16.f_Prefix, r16.f_Suffix, 2, r3⟩ : G_Parts) true else (g.R_begin r3 (fun r18 => (bif r18 then k0 (⟨r16.f_Base, r16.f_Prefix, r16.f_Suffix, 1, r3⟩ : G_Parts) true else k0 (⟨[], [], [], 0, []⟩ : G_Parts) false)))))) else (g.R_begin r3 (fun r19 => (bif r19 then k0 (⟨r16.f_Base, r16.f_Prefix, r16.f_Suffix, 1, r3⟩ : G_Parts) true else k0 (⟨[], [], [], 0, []⟩ : G_Parts) false))))))))))))))))))))
noncomputable def I_R_PartsOf [Fuel] : C_R_PartsOf := ⟨NN, @strings_Cut _, @R_PartsOf_1 _, @R_baseAt _, @R_begin _, @strings_Contains _⟩
noncomputable def R_PartsOf [Fuel] : T_R_PartsOf := @R_PartsOf_ I_R_PartsOf
def SS_R_PartsOf (g : T_R_PartsOf) : Spec A := fun args => match args with | [.d (.str a1)] => fun k => g a1 (fun z0 z1 => k (.tup [.agg [.d (.str z0.f_Base), .d (.str z0.f_Prefix), .d (.str z0.f_Suffix), .d (.int .i64 z0.f_Kind), .d (.str z0.f_Added)], .d (.bool z1)]) [.undef]) | _ => fun _ => none
noncomputable def code_103 : Code := (Tryz.f103.body).getD .skip
noncomputable def E_R_PartsOf (g : C_R_PartsOf) : Env A := mkE [(134, SS_strings_Cut g.strings_Cut), (135, SS_R_PartsOf_1 g.R_PartsOf_1), (136, SS_R_baseAt g.R_baseAt), (137, SS_R_begin g.R_begin), (138, SS_strings_Contains g.strings_Contains)] [(2, [0]), (8, [1]), (9, [2])] [] [] [] [] [] [] [] []
theorem sm_R_PartsOf (g : C_R_PartsOf) : Same (SS_R_PartsOf (@R_PartsOf_ g)) (abody (E_R_PartsOf g) Tryz.f103 code_103 3 [] [.asis, .asis] g.N) := by intro args; unfold SS_R_PartsOf; split; exact .inr fun R k => (by kernel_rfl); exact .inl fun R k => rfl
theorem ok_R_PartsOf [Fuel] : Ok 103 (SS_R_PartsOf (@R_PartsOf _)) := okF_of std (.cons ok_strings_Cut (.cons ok_R_PartsOf_1 (.cons ok_R_baseAt (.cons ok_R_begin (.cons ok_strings_Contains .nil))))) ⟨rfl, rfl, by kernel_rfl, rfl, rfl⟩ (sm_R_PartsOf I_R_PartsOf) (cuts0 (fun _ => rfl) (by kernel_rfl)) Tryz.func103 (by kernel_rfl) (by kernel_rfl)
abbrev T_Q_Call : Type 1 := List UInt8 → {R : Type} → (Bool → Option R) → Option R
structure C_Q_Call where
  N : Nat
  R_PartsOf : T_R_PartsOf
def Q_Call_ (g : C_Q_Call) (a1 : List UInt8) {R : Type} (k0 : Bool → Option R) : Option R :=
  (g.R_PartsOf a1 (fun r2 r3 => k0 r3))
noncomputable def I_Q_Call [Fuel] : C_Q_Call := ⟨NN, @R_PartsOf _⟩
noncomputable def Q_Call [Fuel] : T_Q_Call := @Q_Call_ I_Q_Call
def SS_Q_Call (g : T_Q_Call) : Spec A := fun args => match args with | [.d (.str a1)] => fun k => g a1 (fun z0 => k (.d (.bool z0)) [.undef]) | _ => fun _ => none
noncomputable def code_57 : Code := (Tryz.f57.body).getD .skip
noncomputable def E_Q_Call (g : C_Q_Call) : Env A := mkE [(103, SS_R_PartsOf g.R_PartsOf)] [(3, [0])] [] [] [] [] [] [] [] []
theorem sm_Q_Call (g : C_Q_Call) : Same (SS_Q_Call (@Q_Call_ g)) (abody (E_Q_Call g) Tryz.f57 code_57 1 [] [.asis] g.N) := by intro args; unfold SS_Q_Call; split; exact .inr fun R k => (by kernel_rfl); exact .inl fun R k => rfl
theorem ok_Q_Call [Fuel] : Ok 57 (SS_Q_Call (@Q_Call _)) := okF_of std (.cons ok_R_PartsOf .nil) ⟨rfl, rfl, by kernel_rfl, rfl, rfl⟩ (sm_Q_Call I_Q_Call) (cuts0 (fun _ => rfl) (by kernel_rfl)) Tryz.func57 (by kernel_rfl) (by kernel_rfl)
abbrev T_Q_CardsFault : Type 1 := List G_Card → {R : Type} → (Int → Option R) → Option R
structure C_Q_CardsFault where
  N : Nat
  Q_CardOrder : T_Q_CardOrder
  Q_Key : T_Q_Key
  Q_in : T_Q_in
  Q_Moment : T_Q_Moment
  Q_Call : T_Q_Call
def Q_CardsFault_L4 (g : C_Q_CardsFault) : Nat → List G_Card → List G_Card → Int → Int → {R : Type} → (Int → Option R) → Option R → Option R
  | 0, _, _, _, _, _, _, _ => none
  | n + 1, v2, v3, v4, v5, _, e0, e1 => (bif (decide (v5 < v4)) then (get_ v3 v5 fun x14 => (g.Q_Moment x14.f_At (fun r15 => (bif (!r15) then e0 1 else (g.Q_in x14.f_Kind 1 3 (fun r16 => (bif (!r16) then e0 4 else (g.Q_in x14.f_Mode 1 3 (fun r17 => (bif (!r17) then e0 4 else (g.Q_Call x14.f_Call (fun r18 => (bif (!r18) then e0 3 else (g.Q_Key x14.f_Band (fun r19 => (bif (!r19) then e0 5 else (bif (decide (v5 > 0)) then (get_ v2 (w64 (v5 - 1)) fun x20 => (g.Q_CardOrder x20 x14 (fun r21 => (bif (decide (r21 ≥ 0)) then e0 7 else Q_CardsFault_L4 g n v2 v3 v4 (w64 (v5 + 1)) e0 e1)))) else Q_CardsFault_L4 g n v2 v3 v4 (w64 (v5 + 1)) e0 e1))))))))))))))))) else e1)
def Q_CardsFault_ (g : C_Q_CardsFault) (a1 : List G_Card) {R : Type} (k0 : Int → Option R) : Option R :=
  (bif (decide ((a1.length : Int) > 3000)) then k0 2 else (Q_CardsFault_L4 g g.N a1 a1 (a1.length : Int) 0 (fun e22 => k0 e22) (k0 0)))
noncomputable def I_Q_CardsFault [Fuel] : C_Q_CardsFault := ⟨NN, @Q_CardOrder _, @Q_Key _, @Q_in _, @Q_Moment _, @Q_Call _⟩
noncomputable def Q_CardsFault [Fuel] : T_Q_CardsFault := @Q_CardsFault_ I_Q_CardsFault
def SS_Q_CardsFault (g : T_Q_CardsFault) : Spec A := fun args => match args with | [.d (.sl 82 a1)] => fun k => g a1 (fun z0 => k (.d (.int .i64 z0)) [.undef]) | _ => fun _ => none
def sh_Q_CardsFault_L4 : SSt := mkSh 55 1 [(0, .sl 82), (8, .sl 82), (9, .int .i64), (10, .int .i64)] []
def LP_Q_CardsFault_L4 (g : C_Q_CardsFault) (n : Nat) : LPT A := fun ps => match ps with | [.d (.sl 82 p1), .d (.sl 82 p2), .d (.int .i64 p3), .d (.int .i64 p4)] => fun K => Q_CardsFault_L4 g n p1 p2 p3 p4 (fun z0 => K .ret (mkSt 55 1 [(2, .d (.int .i64 z0))] [])) (K (.exit 0) (mkSt 55 1 [] [])) | _ => fun _ => none
noncomputable def code_15 : Code := (Tryz.f15.body).getD .skip
noncomputable def E_Q_CardsFault (g : C_Q_CardsFault) : Env A := mkE [(46, SS_Q_CardOrder g.Q_CardOrder), (54, SS_Q_Key g.Q_Key), (55, SS_Q_in g.Q_in), (56, SS_Q_Moment g.Q_Moment), (57, SS_Q_Call g.Q_Call)] [(4, [0])] [(4, ⟨[0, 8, 9, 10], [], [], []⟩)] [(4, ⟨[2], [], [], []⟩)] [(4, pieceOf sh_Q_CardsFault_L4 (LP_Q_CardsFault_L4 g g.N))] [] [] [] [] []
theorem ct_Q_CardsFault [Fuel] : NatTab (E_Q_CardsFault I_Q_CardsFault).C := ct_of (P := Tryz.prog) (T := T) (.cons ok_Q_CardOrder (.cons ok_Q_Key (.cons ok_Q_in (.cons ok_Q_Moment (.cons ok_Q_Call .nil))))) (by kernel_rfl)
noncomputable def cb_Q_CardsFault_L4 : Code := sub [1, 1, 0, 1, 0, 0] code_15
theorem s_Q_CardsFault_L4 (g : C_Q_CardsFault) (n : Nat) : StepOk (E_Q_CardsFault g) g.N cb_Q_CardsFault_L4 sh_Q_CardsFault_L4 (LP_Q_CardsFault_L4 g) n := by intro ps; unfold LP_Q_CardsFault_L4; split; exact .inr fun R K => (by kernel_rfl); exact .inl fun R K => rfl
theorem lf_Q_CardsFault_L4 [Fuel] : LoopFine (E_Q_CardsFault I_Q_CardsFault) NN cb_Q_CardsFault_L4 := fine_loop sh_Q_CardsFault_L4 (LP_Q_CardsFault_L4 I_Q_CardsFault) (by kernel_rfl) ct_Q_CardsFault (cuts0 (fun _ => rfl) (by kernel_rfl)) (fun ps R K => by unfold LP_Q_CardsFault_L4; split <;> (try unfold Q_CardsFault_L4) <;> rfl) (s_Q_CardsFault_L4 I_Q_CardsFault)
theorem sm_Q_CardsFault (g : C_Q_CardsFault) : Same (SS_Q_CardsFault (@Q_CardsFault_ g)) (abody (E_Q_CardsFault g) Tryz.f15 code_15 1 [] [.asis] g.N) := by intro args; unfold SS_Q_CardsFault; split; exact .inr fun R k => (by kernel_rfl); exact .inl fun R k => rfl
theorem ok_Q_CardsFault [Fuel] : Ok 15 (SS_Q_CardsFault (@Q_CardsFault _)) := okF_of std (.cons ok_Q_CardOrder (.cons ok_Q_Key (.cons ok_Q_in (.cons ok_Q_Moment (.cons ok_Q_Call .nil))))) ⟨rfl, rfl, by kernel_rfl, rfl, rfl⟩ (sm_Q_CardsFault I_Q_CardsFault) (cutsL (fun _ => rfl) (.cons lf_Q_CardsFault_L4 .nil) (by kernel_rfl)) Tryz.func15 (by kernel_rfl) (by kernel_rfl)
abbrev T_Q_MomentFault : Type 1 := Int → {R : Type} → (Int → Option R) → Option R
structure C_Q_MomentFault where
  N : Nat
  Q_Moment : T_Q_Moment
def Q_MomentFault_ (g : C_Q_MomentFault) (a1 : Int) {R : Type} (k0 : Int → Option R) : Option R :=
  (g.Q_Moment a1 (fun r2 => (bif (!r2) then k0 1 else k0 0)))
noncomputable def I_Q_MomentFault [Fuel] : C_Q_MomentFault := ⟨NN, @Q_Moment _⟩
noncomputable def Q_MomentFault [Fuel] : T_Q_MomentFault := @Q_MomentFault_ I_Q_MomentFault
def SS_Q_MomentFault (g : T_Q_MomentFault) : Spec A := fun args => match args with | [.d (.int .i64 a1)] => fun k => g a1 (fun z0 => k (.d (.int .i64 z0)) [.undef]) | _ => fun _ => none
noncomputable def code_16 : Code := (Tryz.f16.body).getD .skip
noncomputable def E_Q_MomentFault (g : C_Q_MomentFault) : Env A := mkE [(56, SS_Q_Moment g.Q_Moment)] [] [] [] [] [] [] [] [] []
theorem sm_Q_MomentFault (g : C_Q_MomentFault) : Same (SS_Q_MomentFault (@Q_MomentFault_ g)) (abody (E_Q_MomentFault g) Tryz.f16 code_16 0 [] [.asis] g.N) := by intro args; unfold SS_Q_MomentFault; split; exact .inr fun R k => (by kernel_rfl); exact .inl fun R k => rfl
theorem ok_Q_MomentFault [Fuel] : Ok 16 (SS_Q_MomentFault (@Q_MomentFault _)) := okF_of std (.cons ok_Q_Moment .nil) ⟨rfl, rfl, by kernel_rfl, rfl, rfl⟩ (sm_Q_MomentFault I_Q_MomentFault) (cuts0 (fun _ => rfl) (by kernel_rfl)) Tryz.func16 (by kernel_rfl) (by kernel_rfl)
abbrev T_law_errs : Type 1 := List Int → {R : Type} → (Int → Option R) → Option R
def law_errs_L2 (g : Nat) : Nat → List Int → Int → Int → {R : Type} → (Int → Option R) → Option R → Option R
  | 0, _, _, _, _, _, _ => none
  | n + 1, v2, v3, v4, _, e0, e1 => (bif (decide (v4 < v3)) then (get_ v2 v4 fun x6 => (bif (x6 != 0) then e0 x6 else law_errs_L2 g n v2 v3 (w64 (v4 + 1)) e0 e1)) else e1)
def law_errs_ (g : Nat) (a1 : List Int) {R : Type} (k0 : Int → Option R) : Option R :=
  (law_errs_L2 g g a1 (a1.length : Int) 0 (fun e7 => k0 e7) (k0 0))
noncomputable def law_errs [Fuel] : T_law_errs := @law_errs_ NN
def SS_law_errs (g : T_law_errs) : Spec A := fun args => match args with | [.d (.sl 36 a1)] => fun k => g a1 (fun z0 => k (.d (.int .i64 z0)) [.undef]) | _ => fun _ => none
def sh_law_errs_L2 : SSt := mkSh 15 0 [(5, .sl 36), (6, .int .i64), (7, .int .i64)] []
def LP_law_errs_L2 (g : Nat) (n : Nat) : LPT A := fun ps => match ps with | [.d (.sl 36 p1), .d (.int .i64 p2), .d (.int .i64 p3)] => fun K => law_errs_L2 g n p1 p2 p3 (fun z0 => K .ret (mkSt 15 0 [(2, .d (.int .i64 z0))] [])) (K (.exit 0) (mkSt 15 0 [] [])) | _ => fun _ => none
noncomputable def code_13 : Code := (Tryz.f13.body).getD .skip
noncomputable def E_law_errs (g : Nat) : Env A := mkE [] [] [(2, ⟨[5, 6, 7], [], [], []⟩)] [(2, ⟨[2], [], [], []⟩)] [(2, pieceOf sh_law_errs_L2 (LP_law_errs_L2 g g))] [] [] [] [] []
theorem ct_law_errs [Fuel] : NatTab (E_law_errs NN).C := ct_of (P := Tryz.prog) (T := T) .nil (by kernel_rfl)
noncomputable def cb_law_errs_L2 : Code := sub [1, 0, 1, 0, 0] code_13
theorem s_law_errs_L2 (g : Nat) (n : Nat) : StepOk (E_law_errs g) g cb_law_errs_L2 sh_law_errs_L2 (LP_law_errs_L2 g) n := by intro ps; unfold LP_law_errs_L2; split; exact .inr fun R K => (by kernel_rfl); exact .inl fun R K => rfl
theorem lf_law_errs_L2 [Fuel] : LoopFine (E_law_errs NN) NN cb_law_errs_L2 := fine_loop sh_law_errs_L2 (LP_law_errs_L2 NN) (by kernel_rfl) ct_law_errs (cuts0 (fun _ => rfl) (by kernel_rfl)) (fun ps R K => by unfold LP_law_errs_L2; split <;> (try unfold law_errs_L2) <;> rfl) (s_law_errs_L2 NN)
theorem sm_law_errs (g : Nat) : Same (SS_law_errs (@law_errs_ g)) (abody (E_law_errs g) Tryz.f13 code_13 0 [] [.asis] g) := by intro args; unfold SS_law_errs; split; exact .inr fun R k => (by kernel_rfl); exact .inl fun R k => rfl
theorem ok_law_errs [Fuel] : Ok 13 (SS_law_errs (@law_errs _)) := okF_of std .nil ⟨rfl, rfl, by kernel_rfl, rfl, rfl⟩ (sm_law_errs NN) (cutsL (fun _ => rfl) (.cons lf_law_errs_L2 .nil) (by kernel_rfl)) Tryz.func13 (by kernel_rfl) (by kernel_rfl)
abbrev T_Q_BaseOf : Type 1 := List UInt8 → {R : Type} → (List UInt8 → Option R) → Option R
structure C_Q_BaseOf where
  N : Nat
  R_PartsOf : T_R_PartsOf
def Q_BaseOf_ (g : C_Q_BaseOf) (a1 : List UInt8) {R : Type} (k0 : List UInt8 → Option R) : Option R :=
  (g.R_PartsOf a1 (fun r2 r3 => k0 r2.f_Base))
noncomputable def I_Q_BaseOf [Fuel] : C_Q_BaseOf := ⟨NN, @R_PartsOf _⟩
noncomputable def Q_BaseOf [Fuel] : T_Q_BaseOf := @Q_BaseOf_ I_Q_BaseOf
def SS_Q_BaseOf (g : T_Q_BaseOf) : Spec A := fun args => match args with | [.d (.str a1)] => fun k => g a1 (fun z0 => k (.d (.str z0)) [.undef]) | _ => fun _ => none
noncomputable def code_71 : Code := (Tryz.f71.body).getD .skip
noncomputable def E_Q_BaseOf (g : C_Q_BaseOf) : Env A := mkE [(103, SS_R_PartsOf g.R_PartsOf)] [(3, [0])] [] [] [] [] [] [] [] []
theorem sm_Q_BaseOf (g : C_Q_BaseOf) : Same (SS_Q_BaseOf (@Q_BaseOf_ g)) (abody (E_Q_BaseOf g) Tryz.f71 code_71 1 [] [.asis] g.N) := by intro args; unfold SS_Q_BaseOf; split; exact .inr fun R k => (by kernel_rfl); exact .inl fun R k => rfl
theorem ok_Q_BaseOf [Fuel] : Ok 71 (SS_Q_BaseOf (@Q_BaseOf _)) := okF_of std (.cons ok_R_PartsOf .nil) ⟨rfl, rfl, by kernel_rfl, rfl, rfl⟩ (sm_Q_BaseOf I_Q_BaseOf) (cuts0 (fun _ => rfl) (by kernel_rfl)) Tryz.func71 (by kernel_rfl) (by kernel_rfl)
abbrev T_Q_with : Type 1 := G_Card → G_Card → {R : Type} → (Bool → Option R) → Option R
structure C_Q_with where
  N : Nat
  Q_BaseOf : T_Q_BaseOf
def Q_with_ (g : C_Q_with) (a1 a2 : G_Card) {R : Type} (k0 : Bool → Option R) : Option R :=
  (g.Q_BaseOf a1.f_Call (fun r3 => (g.Q_BaseOf a2.f_Call (fun r4 => (bif (r3 == r4) then (bif (a1.f_Band == a2.f_Band) then k0 (a1.f_Mode == a2.f_Mode) else k0 false) else k0 false)))))
noncomputable def I_Q_with [Fuel] : C_Q_with := ⟨NN, @Q_BaseOf _⟩
noncomputable def Q_with [Fuel] : T_Q_with := @Q_with_ I_Q_with
def SS_Q_with (g : T_Q_with) : Spec A := fun args => match args with | [.agg [.d (.int .i64 a1), .d (.int .i64 a2), .d (.int .i64 a3), .d (.str a4), .d (.str a5)], .agg [.d (.int .i64 a6), .d (.int .i64 a7), .d (.int .i64 a8), .d (.str a9), .d (.str a10)]] => fun k => g ⟨a1, a2, a3, a4, a5⟩ ⟨a6, a7, a8, a9, a10⟩ (fun z0 => k (.d (.bool z0)) [.undef, .undef]) | _ => fun _ => none
noncomputable def code_141 : Code := (Tryz.f141.body).getD .skip
noncomputable def E_Q_with (g : C_Q_with) : Env A := mkE [(71, SS_Q_BaseOf g.Q_BaseOf)] [(2, [0]), (3, [1])] [] [] [] [] [] [] [] []
theorem sm_Q_with (g : C_Q_with) : Same (SS_Q_with (@Q_with_ g)) (abody (E_Q_with g) Tryz.f141 code_141 2 [] [.asis] g.N) := by intro args; unfold SS_Q_with; split; exact .inr fun R k => (by kernel_rfl); exact .inl fun R k => rfl
theorem ok_Q_with [Fuel] : Ok 141 (SS_Q_with (@Q_with _)) := okF_of std (.cons ok_Q_BaseOf .nil) ⟨rfl, rfl, by kernel_rfl, rfl, rfl⟩ (sm_Q_with I_Q_with) (cuts0 (fun _ => rfl) (by kernel_rfl)) Tryz.func141 (by kernel_rfl) (by kernel_rfl)
abbrev T_Q_ConfirmedBy_1 : Type 1 := G_Card → G_Card → {R : Type} → (Bool → G_Card → Option R) → Option R
structure C_Q_ConfirmedBy_1 where
  N : Nat
  Q_with : T_Q_with
def Q_ConfirmedBy_1_ (g : C_Q_ConfirmedBy_1) (a1 a2 : G_Card) {R : Type} (k0 : Bool → G_Card → Option R) : Option R :=
  (g.Q_with a1 a2 (fun r3 => k0 r3 a2))
noncomputable def I_Q_ConfirmedBy_1 [Fuel] : C_Q_ConfirmedBy_1 := ⟨NN, @Q_with _⟩
noncomputable def Q_ConfirmedBy_1 [Fuel] : T_Q_ConfirmedBy_1 := @Q_ConfirmedBy_1_ I_Q_ConfirmedBy_1
def SS_Q_ConfirmedBy_1 (g : T_Q_ConfirmedBy_1) : Spec A := fun args => match args with | [.agg [.d (.int .i64 a1), .d (.int .i64 a2), .d (.int .i64 a3), .d (.str a4), .d (.str a5)], .box [.d (.int .i64 a6), .d (.int .i64 a7), .d (.int .i64 a8), .d (.str a9), .d (.str a10)]] => fun k => g ⟨a1, a2, a3, a4, a5⟩ ⟨a6, a7, a8, a9, a10⟩ (fun z0 z1 => k (.d (.bool z0)) [.undef, .box [.d (.int .i64 z1.f_At), .d (.int .i64 z1.f_Kind), .d (.int .i64 z1.f_Mode), .d (.str z1.f_Call), .d (.str z1.f_Band)]]) | _ => fun _ => none
noncomputable def code_140 : Code := (Tryz.f140.body).getD .skip
noncomputable def E_Q_ConfirmedBy_1 (g : C_Q_ConfirmedBy_1) : Env A := mkE [(141, SS_Q_with g.Q_with)] [(2, [1])] [] [] [] [] [] [] [] [1]
theorem sm_Q_ConfirmedBy_1 (g : C_Q_ConfirmedBy_1) : Same (SS_Q_ConfirmedBy_1 (@Q_ConfirmedBy_1_ g)) (abody (E_Q_ConfirmedBy_1 g) Tryz.f140 code_140 2 [0] [.asis] g.N) := by intro args; unfold SS_Q_ConfirmedBy_1; split; exact .inr fun R k => (by kernel_rfl); exact .inl fun R k => rfl
theorem ok_Q_ConfirmedBy_1 [Fuel] : Ok 140 (SS_Q_ConfirmedBy_1 (@Q_ConfirmedBy_1 _)) := okF_of std (.cons ok_Q_with .nil) ⟨rfl, rfl, by kernel_rfl, rfl, rfl⟩ (sm_Q_ConfirmedBy_1 I_Q_ConfirmedBy_1) (cuts0 (fun _ => rfl) (by kernel_rfl)) Tryz.func140 (by kernel_rfl) (by kernel_rfl)
abbrev T_slices_IndexFunc__Card_Q_ConfirmedBy_1 : Type 1 := List G_Card → G_Card → {R : Type} → (Int → G_Card → Option R) → Option R
structure C_slices_IndexFunc__Card_Q_ConfirmedBy_1 where
  N : Nat
  Q_ConfirmedBy_1 : T_Q_ConfirmedBy_1
def slices_IndexFunc__Card_Q_ConfirmedBy_1_L2 (g : C_slices_IndexFunc__Card_Q_ConfirmedBy_1) : Nat → List G_Card → Int → Int → G_Card → {R : Type} → (Int → G_Card → Option R) → (G_Card → Option R) → Option R
  | 0, _, _, _, _, _, _, _ => none
  | n + 1, v3, v4, v5, v6, _, e0, e1 => (bif (decide (v5 < v4)) then (get_ v3 v5 fun x10 => (g.Q_ConfirmedBy_1 x10 v6 (fun r11 r12 => (bif r11 then e0 v5 r12 else slices_IndexFunc__Card_Q_ConfirmedBy_1_L2 g n v3 v4 (w64 (v5 + 1)) r12 e0 e1)))) else e1 v6)
def slices_IndexFunc__Card_Q_ConfirmedBy_1_ (g : C_slices_IndexFunc__Card_Q_ConfirmedBy_1) (a1 : List G_Card) (a2 : G_Card) {R : Type} (k0 : Int → G_Card → Option R) : Option R :=
  (slices_IndexFunc__Card_Q_ConfirmedBy_1_L2 g g.N a1 (a1.length : Int) 0 a2 (fun e13 e14 => k0 e13 e14) (fun e15 => k0 (-1) e15))
noncomputable def I_slices_IndexFunc__Card_Q_ConfirmedBy_1 [Fuel] : C_slices_IndexFunc__Card_Q_ConfirmedBy_1 := ⟨NN, @Q_ConfirmedBy_1 _⟩
noncomputable def slices_IndexFunc__Card_Q_ConfirmedBy_1 [Fuel] : T_slices_IndexFunc__Card_Q_ConfirmedBy_1 := @slices_IndexFunc__Card_Q_ConfirmedBy_1_ I_slices_IndexFunc__Card_Q_ConfirmedBy_1
def SS_slices_IndexFunc__Card_Q_ConfirmedBy_1 (g : T_slices_IndexFunc__Card_Q_ConfirmedBy_1) : Spec A := fun args => match args with | [.d (.sl 82 a1), .fn 140 [.box [.d (.int .i64 a2), .d (.int .i64 a3), .d (.int .i64 a4), .d (.str a5), .d (.str a6)]]] => fun k => g a1 ⟨a2, a3, a4, a5, a6⟩ (fun z0 z1 => k (.d (.int .i64 z0)) [.undef, .fn 140 [.box [.d (.int .i64 z1.f_At), .d (.int .i64 z1.f_Kind), .d (.int .i64 z1.f_Mode), .d (.str z1.f_Call), .d (.str z1.f_Band)]]]) | _ => fun _ => none
def sh_slices_IndexFunc__Card_Q_ConfirmedBy_1_L2 : SSt := mkSh 19 1 [(0, .sl 82), (1, .fn 140 [.ptr 0 0]), (7, .int .i64), (8, .int .i64)] [(0, .box [.int .i64, .int .i64, .int .i64, .str, .str])]
def LP_slices_IndexFunc__Card_Q_ConfirmedBy_1_L2 (g : C_slices_IndexFunc__Card_Q_ConfirmedBy_1) (n : Nat) : LPT A := fun ps => match ps with | [.d (.sl 82 p1), .d (.int .i64 p2), .d (.int .i64 p3), .d (.int .i64 p4), .d (.int .i64 p5), .d (.int .i64 p6), .d (.str p7), .d (.str p8)] => fun K => slices_IndexFunc__Card_Q_ConfirmedBy_1_L2 g n p1 p2 p3 ⟨p4, p5, p6, p7, p8⟩ (fun z0 z1 => K .ret (mkSt 19 1 [(1, .fn 140 [.ptr 0 0]), (4, .d (.int .i64 z0))] [(0, some (.box [.d (.int .i64 z1.f_At), .d (.int .i64 z1.f_Kind), .d (.int .i64 z1.f_Mode), .d (.str z1.f_Call), .d (.str z1.f_Band)]))])) (fun z0 => K (.exit 0) (mkSt 19 1 [(1, .fn 140 [.ptr 0 0])] [(0, some (.box [.d (.int .i64 z0.f_At), .d (.int .i64 z0.f_Kind), .d (.int .i64 z0.f_Mode), .d (.str z0.f_Call), .d (.str z0.f_Band)]))])) | _ => fun _ => none
noncomputable def code_187 : Code := (Tryz.f187.body).getD .skip
noncomputable def E_slices_IndexFunc__Card_Q_ConfirmedBy_1 (g : C_slices_IndexFunc__Card_Q_ConfirmedBy_1) : Env A := mkE [(140, SS_Q_ConfirmedBy_1 g.Q_ConfirmedBy_1)] [] [(2, ⟨[0, 1, 7, 8], [], [0], []⟩)] [(2, ⟨[1, 4], [], [0], []⟩)] [(2, pieceOf sh_slices_IndexFunc__Card_Q_ConfirmedBy_1_L2 (LP_slices_IndexFunc__Card_Q_ConfirmedBy_1_L2 g g.N))] [] [] [] [] [1]
theorem ct_slices_IndexFunc__Card_Q_ConfirmedBy_1 [Fuel] : NatTab (E_slices_IndexFunc__Card_Q_ConfirmedBy_1 I_slices_IndexFunc__Card_Q_ConfirmedBy_1).C := ct_of (P := Tryz.prog) (T := T) (.cons ok_Q_ConfirmedBy_1 .nil) (by kernel_rfl)
noncomputable def cb_slices_IndexFunc__Card_Q_ConfirmedBy_1_L2 : Code := sub [1, 0, 1, 0, 0] code_187
theorem s_slices_IndexFunc__Card_Q_ConfirmedBy_1_L2 (g : C_slices_IndexFunc__Card_Q_ConfirmedBy_1) (n : Nat) : StepOk (E_slices_IndexFunc__Card_Q_ConfirmedBy_1 g) g.N cb_slices_IndexFunc__Card_Q_ConfirmedBy_1_L2 sh_slices_IndexFunc__Card_Q_ConfirmedBy_1_L2 (LP_slices_IndexFunc__Card_Q_ConfirmedBy_1_L2 g) n := by intro ps; unfold LP_slices_IndexFunc__Card_Q_ConfirmedBy_1_L2; split; exact .inr fun R K => (by kernel_rfl); exact .inl fun R K => rfl
theorem lf_slices_IndexFunc__Card_Q_ConfirmedBy_1_L2 [Fuel] : LoopFine (E_slices_IndexFunc__Card_Q_ConfirmedBy_1 I_slices_IndexFunc__Card_Q_ConfirmedBy_1) NN cb_slices_IndexFunc__Card_Q_ConfirmedBy_1_L2 := fine_loop sh_slices_IndexFunc__Card_Q_ConfirmedBy_1_L2 (LP_slices_IndexFunc__Card_Q_ConfirmedBy_1_L2 I_slices_IndexFunc__Card_Q_ConfirmedBy_1) (by kernel_rfl) ct_slices_IndexFunc__Card_Q_ConfirmedBy_1 (cuts0 (fun _ => rfl) (by kernel_rfl)) (fun ps R K => by unfold LP_slices_IndexFunc__Card_Q_ConfirmedBy_1_L2; split <;> (try unfold slices_IndexFunc__Card_Q_ConfirmedBy_1_L2) <;> rfl) (s_slices_IndexFunc__Card_Q_ConfirmedBy_1_L2 I_slices_IndexFunc__Card_Q_ConfirmedBy_1)
theorem sm_slices_IndexFunc__Card_Q_ConfirmedBy_1 (g : C_slices_IndexFunc__Card_Q_ConfirmedBy_1) : Same (SS_slices_IndexFunc__Card_Q_ConfirmedBy_1 (@slices_IndexFunc__Card_Q_ConfirmedBy_1_ g)) (abody (E_slices_IndexFunc__Card_Q_ConfirmedBy_1 g) Tryz.f187 code_187 1 [0] [.asis] g.N) := by intro args; unfold SS_slices_IndexFunc__Card_Q_ConfirmedBy_1; split; exact .inr fun R k => (by kernel_rfl); exact .inl fun R k => rfl
theorem ok_slices_IndexFunc__Card_Q_ConfirmedBy_1 [Fuel] : Ok 187 (SS_slices_IndexFunc__Card_Q_ConfirmedBy_1 (@slices_IndexFunc__Card_Q_ConfirmedBy_1 _)) := okF_of std (.cons ok_Q_ConfirmedBy_1 .nil) ⟨rfl, rfl, by kernel_rfl, rfl, rfl⟩ (sm_slices_IndexFunc__Card_Q_ConfirmedBy_1 I_slices_IndexFunc__Card_Q_ConfirmedBy_1) (cutsL (fun _ => rfl) (.cons lf_slices_IndexFunc__Card_Q_ConfirmedBy_1_L2 .nil) (by kernel_rfl)) Tryz.func187 (by kernel_rfl) (by kernel_rfl)
abbrev T_slices_ContainsFunc__Card_Q_ConfirmedBy_1 : Type 1 := List G_Card → G_Card → {R : Type} → (Bool → G_Card → Option R) → Option R
structure C_slices_ContainsFunc__Card_Q_ConfirmedBy_1 where
  N : Nat
  slices_IndexFunc__Card_Q_ConfirmedBy_1 : T_slices_IndexFunc__Card_Q_ConfirmedBy_1
def slices_ContainsFunc__Card_Q_ConfirmedBy_1_ (g : C_slices_ContainsFunc__Card_Q_ConfirmedBy_1) (a1 : List G_Card) (a2 : G_Card) {R : Type} (k0 : Bool → G_Card → Option R) : Option R :=
  (g.slices_IndexFunc__Card_Q_ConfirmedBy_1 a1 a2 (fun r3 r4 => k0 (decide (r3 ≥ 0)) r4))
noncomputable def I_slices_ContainsFunc__Card_Q_ConfirmedBy_1 [Fuel] : C_slices_ContainsFunc__Card_Q_ConfirmedBy_1 := ⟨NN, @slices_IndexFunc__Card_Q_ConfirmedBy_1 _⟩
noncomputable def slices_ContainsFunc__Card_Q_ConfirmedBy_1 [Fuel] : T_slices_ContainsFunc__Card_Q_ConfirmedBy_1 := @slices_ContainsFunc__Card_Q_ConfirmedBy_1_ I_slices_ContainsFunc__Card_Q_ConfirmedBy_1
def SS_slices_ContainsFunc__Card_Q_ConfirmedBy_1 (g : T_slices_ContainsFunc__Card_Q_ConfirmedBy_1) : Spec A := fun args => match args with | [.d (.sl 82 a1), .fn 140 [.box [.d (.int .i64 a2), .d (.int .i64 a3), .d (.int .i64 a4), .d (.str a5), .d (.str a6)]]] => fun k => g a1 ⟨a2, a3, a4, a5, a6⟩ (fun z0 z1 => k (.d (.bool z0)) [.undef, .fn 140 [.box [.d (.int .i64 z1.f_At), .d (.int .i64 z1.f_Kind), .d (.int .i64 z1.f_Mode), .d (.str z1.f_Call), .d (.str z1.f_Band)]]]) | _ => fun _ => none
noncomputable def code_139 : Code := (Tryz.f139.body).getD .skip
noncomputable def E_slices_ContainsFunc__Card_Q_ConfirmedBy_1 (g : C_slices_ContainsFunc__Card_Q_ConfirmedBy_1) : Env A := mkE [(187, SS_slices_IndexFunc__Card_Q_ConfirmedBy_1 g.slices_IndexFunc__Card_Q_ConfirmedBy_1)] [] [] [] [] [] [] [] [(187, 0)] [1]
theorem sm_slices_ContainsFunc__Card_Q_ConfirmedBy_1 (g : C_slices_ContainsFunc__Card_Q_ConfirmedBy_1) : Same (SS_slices_ContainsFunc__Card_Q_ConfirmedBy_1 (@slices_ContainsFunc__Card_Q_ConfirmedBy_1_ g)) (abody (E_slices_ContainsFunc__Card_Q_ConfirmedBy_1 g) Tryz.f139 code_139 1 [0] [.asis] g.N) := by intro args; unfold SS_slices_ContainsFunc__Card_Q_ConfirmedBy_1; split; exact .inr fun R k => (by kernel_rfl); exact .inl fun R k => rfl
theorem ok_slices_ContainsFunc__Card_Q_ConfirmedBy_1 [Fuel] : Ok 139 (SS_slices_ContainsFunc__Card_Q_ConfirmedBy_1 (@slices_ContainsFunc__Card_Q_ConfirmedBy_1 _)) := okF_of std (.cons ok_slices_IndexFunc__Card_Q_ConfirmedBy_1 .nil) ⟨rfl, rfl, by kernel_rfl, rfl, rfl⟩ (sm_slices_ContainsFunc__Card_Q_ConfirmedBy_1 I_slices_ContainsFunc__Card_Q_ConfirmedBy_1) (cuts0 (fun _ => rfl) (by kernel_rfl)) Tryz.func139 (by kernel_rfl) (by kernel_rfl)
abbrev T_Q_ConfirmedBy : Type 1 := List G_Card → Int → {R : Type} → (List G_Card → Option R) → Option R
structure C_Q_ConfirmedBy where
  N : Nat
  slices_ContainsFunc__Card_Q_ConfirmedBy_1 : T_slices_ContainsFunc__Card_Q_ConfirmedBy_1
def Q_ConfirmedBy_L3 (g : C_Q_ConfirmedBy) : Nat → Int → List G_Card → Int → Int → List G_Card → {R : Type} → (List G_Card → Option R) → Option R
  | 0, _, _, _, _, _, _, _ => none
  | n + 1, v3, v4, v5, v6, v7, _, e0 => (bif (decide (v6 < v5)) then (get_ v4 v6 fun x11 => (bif (x11.f_Kind == 2) then (bif (decide (x11.f_At ≤ v3)) then (g.slices_ContainsFunc__Card_Q_ConfirmedBy_1 v7 x11 (fun r12 r13 => (bif (!r12) then (bif (decide ((v7.length + [r13].length) * 56 ≤ roomBytes')) then Q_ConfirmedBy_L3 g n v3 v4 v5 (w64 (v6 + 1)) (v7 ++ [r13]) e0 else none) else Q_ConfirmedBy_L3 g n v3 v4 v5 (w64 (v6 + 1)) v7 e0))) else Q_ConfirmedBy_L3 g n v3 v4 v5 (w64 (v6 + 1)) v7 e0) else Q_ConfirmedBy_L3 g n v3 v4 v5 (w64 (v6 + 1)) v7 e0)) else e0 v7)
def Q_ConfirmedBy_ (g : C_Q_ConfirmedBy) (a1 : List G_Card) (a2 : Int) {R : Type} (k0 : List G_Card → Option R) : Option R :=
  (Q_ConfirmedBy_L3 g g.N a2 a1 (a1.length : Int) 0 [] (fun e14 => k0 e14))
noncomputable def I_Q_ConfirmedBy [Fuel] : C_Q_ConfirmedBy := ⟨NN, @slices_ContainsFunc__Card_Q_ConfirmedBy_1 _⟩
noncomputable def Q_ConfirmedBy [Fuel] : T_Q_ConfirmedBy := @Q_ConfirmedBy_ I_Q_ConfirmedBy
def SS_Q_ConfirmedBy (g : T_Q_ConfirmedBy) : Spec A := fun args => match args with | [.d (.sl 82 a1), .d (.int .i64 a2)] => fun k => g a1 a2 (fun z0 => k (.arr 82 z0) [.undef, .undef]) | _ => fun _ => none
def sh_Q_ConfirmedBy_L3 : SSt := mkSh 35 4 [(1, .int .i64), (5, .own 82 0), (8, .sl 82), (9, .int .i64), (10, .int .i64)] [(0, .row 82)]
def LP_Q_ConfirmedBy_L3 (g : C_Q_ConfirmedBy) (n : Nat) : LPT A := fun ps => match ps with | [.d (.int .i64 p1), .d (.sl 82 p2), .d (.int .i64 p3), .d (.int .i64 p4), .d (.sl 82 p5)] => fun K => Q_ConfirmedBy_L3 g n p1 p2 p3 p4 p5 (fun z0 => K (.exit 0) (mkSt 35 4 [(5, .own 82 0)] [(0, some (.row 82 z0))])) | _ => fun _ => none
noncomputable def code_104 : Code := (Tryz.f104.body).getD .skip
noncomputable def E_Q_ConfirmedBy (g : C_Q_ConfirmedBy) : Env A := mkE [(139, SS_slices_ContainsFunc__Card_Q_ConfirmedBy_1 g.slices_ContainsFunc__Card_Q_ConfirmedBy_1)] [(7, [1]), (31, [2]), (32, [3])] [(3, ⟨[1, 5, 8, 9, 10], [(5, 82, 0)], [], []⟩)] [(3, ⟨[5], [], [0], []⟩)] [(3, pieceOf sh_Q_ConfirmedBy_L3 (LP_Q_ConfirmedBy_L3 g g.N))] [] [] [] [] []
theorem ct_Q_ConfirmedBy [Fuel] : NatTab (E_Q_ConfirmedBy I_Q_ConfirmedBy).C := ct_of (P := Tryz.prog) (T := T) (.cons ok_slices_ContainsFunc__Card_Q_ConfirmedBy_1 .nil) (by kernel_rfl)
noncomputable def cb_Q_ConfirmedBy_L3 : Code := sub [1, 1, 0, 1, 0, 0] code_104
theorem s_Q_ConfirmedBy_L3 (g : C_Q_ConfirmedBy) (n : Nat) : StepOk (E_Q_ConfirmedBy g) g.N cb_Q_ConfirmedBy_L3 sh_Q_ConfirmedBy_L3 (LP_Q_ConfirmedBy_L3 g) n := by intro ps; unfold LP_Q_ConfirmedBy_L3; split; exact .inr fun R K => (by kernel_rfl); exact .inl fun R K => rfl
theorem lf_Q_ConfirmedBy_L3 [Fuel] : LoopFine (E_Q_ConfirmedBy I_Q_ConfirmedBy) NN cb_Q_ConfirmedBy_L3 := fine_loop sh_Q_ConfirmedBy_L3 (LP_Q_ConfirmedBy_L3 I_Q_ConfirmedBy) (by kernel_rfl) ct_Q_ConfirmedBy (cuts0 (fun _ => rfl) (by kernel_rfl)) (fun ps R K => by unfold LP_Q_ConfirmedBy_L3; split <;> (try unfold Q_ConfirmedBy_L3) <;> rfl) (s_Q_ConfirmedBy_L3 I_Q_ConfirmedBy)
theorem sm_Q_ConfirmedBy (g : C_Q_ConfirmedBy) : Same (SS_Q_ConfirmedBy (@Q_ConfirmedBy_ g)) (abody (E_Q_ConfirmedBy g) Tryz.f104 code_104 4 [] [.arr 82] g.N) := by intro args; unfold SS_Q_ConfirmedBy; split; exact .inr fun R k => (by kernel_rfl); exact .inl fun R k => rfl
theorem ok_Q_ConfirmedBy [Fuel] : Ok 104 (SS_Q_ConfirmedBy (@Q_ConfirmedBy _)) := okF_of std (.cons ok_slices_ContainsFunc__Card_Q_ConfirmedBy_1 .nil) ⟨rfl, rfl, by kernel_rfl, rfl, rfl⟩ (sm_Q_ConfirmedBy I_Q_ConfirmedBy) (cutsL (fun _ => rfl) (.cons lf_Q_ConfirmedBy_L3 .nil) (by kernel_rfl)) Tryz.func104 (by kernel_rfl) (by kernel_rfl)
abbrev T_Q_reached : Type 1 := G_Award → List G_Card → Int → {R : Type} → (Int → Option R) → Option R
structure C_Q_reached where
  N : Nat
  Q_BaseOf : T_Q_BaseOf
  Q_ConfirmedBy : T_Q_ConfirmedBy
def Q_reached_L3 (g : C_Q_reached) : Nat → Int → Int → G_Award → List (G_Card × Bool) → List G_Card → {R : Type} → (List (G_Card × Bool) → Option R) → Option R
  | 0, _, _, _, _, _, _, _ => none
  | n + 1, v5, v6, v7, v8, v9, _, e0 => (bif (decide (v6 < v5)) then (inr v9 v6 (at_ v9 v6 fun x13 => (bif (!(v7.f_Band == [])) then (bif (!(x13.f_Band == v7.f_Band)) then Q_reached_L3 g n v5 (w64 (v6 + 1)) v7 v8 v9 e0 else (g.Q_BaseOf x13.f_Call (fun r14 => (bif (v7.f_Count == 2) then (bif (v7.f_Count == 3) then Q_reached_L3 g n v5 (w64 (v6 + 1)) v7 (mset_Card_bool (⟨0, 0, x13.f_Mode, r14, x13.f_Band⟩ : G_Card) true v8) v9 e0 else (bif (v7.f_Count == 4) then Q_reached_L3 g n v5 (w64 (v6 + 1)) v7 (mset_Card_bool (⟨0, 0, x13.f_Mode, r14, x13.f_Band⟩ : G_Card) true v8) v9 e0 else Q_reached_L3 g n v5 (w64 (v6 + 1)) v7 (mset_Card_bool (⟨0, 0, 0, r14, x13.f_Band⟩ : G_Card) true v8) v9 e0)) else (bif (v7.f_Count == 4) then (bif (v7.f_Count == 3) then Q_reached_L3 g n v5 (w64 (v6 + 1)) v7 (mset_Card_bool (⟨0, 0, x13.f_Mode, r14, x13.f_Band⟩ : G_Card) true v8) v9 e0 else (bif (v7.f_Count == 4) then Q_reached_L3 g n v5 (w64 (v6 + 1)) v7 (mset_Card_bool (⟨0, 0, x13.f_Mode, r14, x13.f_Band⟩ : G_Card) true v8) v9 e0 else Q_reached_L3 g n v5 (w64 (v6 + 1)) v7 (mset_Card_bool (⟨0, 0, 0, r14, x13.f_Band⟩ : G_Card) true v8) v9 e0)) else (bif (v7.f_Count == 3) then Q_reached_L3 g n v5 (w64 (v6 + 1)) v7 (mset_Card_bool (⟨0, 0, x13.f_Mode, r14, []⟩ : G_Card) true v8) v9 e0 else (bif (v7.f_Count == 4) then Q_reached_L3 g n v5 (w64 (v6 + 1)) v7 (mset_Card_bool (⟨0, 0, x13.f_Mode, r14, []⟩ : G_Card) true v8) v9 e0 else Q_reached_L3 g n v5 (w64 (v6 + 1)) v7 (mset_Card_bool (⟨0, 0, 0, r14, []⟩ : G_Card) true v8) v9 e0))))))) else (g.Q_BaseOf x13.f_Call (fun r15 => (bif (v7.f_Count == 2) then (bif (v7.f_Count == 3) then Q_reached_L3 g n v5 (w64 (v6 + 1)) v7 (mset_Card_bool (⟨0, 0, x13.f_Mode, r15, x13.f_Band⟩ : G_Card) true v8) v9 e0 else (bif (v7.f_Count == 4) then Q_reached_L3 g n v5 (w64 (v6 + 1)) v7 (mset_Card_bool (⟨0, 0, x13.f_Mode, r15, x13.f_Band⟩ : G_Card) true v8) v9 e0 else Q_reached_L3 g n v5 (w64 (v6 + 1)) v7 (mset_Card_bool (⟨0, 0, 0, r15, x13.f_Band⟩ : G_Card) true v8) v9 e0)) else (bif (v7.f_Count == 4) then (bif (v7.f_Count == 3) then Q_reached_L3 g n v5 (w64 (v6 + 1)) v7 (mset_Card_bool (⟨0, 0, x13.f_Mode, r15, x13.f_Band⟩ : G_Card) true v8) v9 e0 else (bif (v7.f_Count == 4) then Q_reached_L3 g n v5 (w64 (v6 + 1)) v7 (mset_Card_bool (⟨0, 0, x13.f_Mode, r15, x13.f_Band⟩ : G_Card) true v8) v9 e0 else Q_reached_L3 g n v5 (w64 (v6 + 1)) v7 (mset_Card_bool (⟨0, 0, 0, r15, x13.f_Band⟩ : G_Card) true v8) v9 e0)) else (bif (v7.f_Count == 3) then Q_reached_L3 g n v5 (w64 (v6 + 1)) v7 (mset_Card_bool (⟨0, 0, x13.f_Mode, r15, []⟩ : G_Card) true v8) v9 e0 else (bif (v7.f_Count == 4) then Q_reached_L3 g n v5 (w64 (v6 + 1)) v7 (mset_Card_bool (⟨0, 0, x13.f_Mode, r15, []⟩ : G_Card) true v8) v9 e0 else Q_reached_L3 g n v5 (w64 (v6 + 1)) v7 (mset_Card_bool (⟨0, 0, 0, r15, []⟩ : G_Card) true v8) v9 e0))))))))) else e0 v8)
def Q_reached_ (g : C_Q_reached) (a1 : G_Award) (a2 : List G_Card) (a3 : Int) {R : Type} (k0 : Int → Option R) : Option R :=
  (g.Q_ConfirmedBy a2 a3 (fun r4 => (Q_reached_L3 g g.N (r4.length : Int) 0 a1 [] r4 (fun e16 => k0 (e16.length : Int)))))
noncomputable def I_Q_reached [Fuel] : C_Q_reached := ⟨NN, @Q_BaseOf _, @Q_ConfirmedBy _⟩
noncomputable def Q_reached [Fuel] : T_Q_reached := @Q_reached_ I_Q_reached
def SS_Q_reached (g : T_Q_reached) : Spec A := fun args => match args with | [.agg [.d (.str a1), .d (.str a2), .d (.int .i64 a3), .d (.int .i64 a4)], .d (.sl 82 a5), .d (.int .i64 a6)] => fun k => g ⟨a1, a2, a3, a4⟩ a5 a6 (fun z0 => k (.d (.int .i64 z0)) [.undef, .undef, .undef]) | _ => fun _ => none
def sh_Q_reached_L3 : SSt := mkSh 61 5 [(3, .ptr 0 0), (7, .mp 1), (14, .own 82 2), (15, .int .i64), (16, .int .i64)] [(0, .box [.str, .str, .int .i64, .int .i64]), (1, .mp 82 4), (2, .row 82)]
def LP_Q_reached_L3 (g : C_Q_reached) (n : Nat) : LPT A := fun ps => match ps with | [.d (.int .i64 p1), .d (.int .i64 p2), .d (.str p3), .d (.str p4), .d (.int .i64 p5), .d (.int .i64 p6), .mp 82 4 p7, .d (.sl 82 p8)] => fun K => Q_reached_L3 g n p1 p2 ⟨p3, p4, p5, p6⟩ p7 p8 (fun z0 => K (.exit 0) (mkSt 61 5 [(7, .mp 1)] [(1, some (.mp 82 4 z0))])) | _ => fun _ => none
noncomputable def code_58 : Code := (Tryz.f58.body).getD .skip
noncomputable def E_Q_reached (g : C_Q_reached) : Env A := mkE [(71, SS_Q_BaseOf g.Q_BaseOf), (104, SS_Q_ConfirmedBy g.Q_ConfirmedBy)] [(3, [0]), (9, [3]), (10, [4]), (11, [1]), (14, [2])] [(3, ⟨[3, 7, 14, 15, 16], [], [0, 1, 2], []⟩)] [(3, ⟨[7], [], [1], []⟩)] [(3, pieceOf sh_Q_reached_L3 (LP_Q_reached_L3 g g.N))] [] [] [] [] []
theorem ct_Q_reached [Fuel] : NatTab (E_Q_reached I_Q_reached).C := ct_of (P := Tryz.prog) (T := T) (.cons ok_Q_BaseOf (.cons ok_Q_ConfirmedBy .nil)) (by kernel_rfl)
noncomputable def cb_Q_reached_L3 : Code := sub [1, 1, 0, 1, 0, 0] code_58
theorem s_Q_reached_L3 (g : C_Q_reached) (n : Nat) : StepOk (E_Q_reached g) g.N cb_Q_reached_L3 sh_Q_reached_L3 (LP_Q_reached_L3 g) n := by intro ps; unfold LP_Q_reached_L3; split; exact .inr fun R K => (by kernel_rfl); exact .inl fun R K => rfl
theorem lf_Q_reached_L3 [Fuel] : LoopFine (E_Q_reached I_Q_reached) NN cb_Q_reached_L3 := fine_loop sh_Q_reached_L3 (LP_Q_reached_L3 I_Q_reached) (by kernel_rfl) ct_Q_reached (cuts0 (fun _ => rfl) (by kernel_rfl)) (fun ps R K => by unfold LP_Q_reached_L3; split <;> (try unfold Q_reached_L3) <;> rfl) (s_Q_reached_L3 I_Q_reached)
theorem sm_Q_reached (g : C_Q_reached) : Same (SS_Q_reached (@Q_reached_ g)) (abody (E_Q_reached g) Tryz.f58 code_58 5 [] [.asis] g.N) := by intro args; unfold SS_Q_reached; split; exact .inr fun R k => (by kernel_rfl); exact .inl fun R k => rfl
theorem ok_Q_reached [Fuel] : Ok 58 (SS_Q_reached (@Q_reached _)) := okF_of std (.cons ok_Q_BaseOf (.cons ok_Q_ConfirmedBy .nil)) ⟨rfl, rfl, by kernel_rfl, rfl, rfl⟩ (sm_Q_reached I_Q_reached) (cutsL (fun _ => rfl) (.cons lf_Q_reached_L3 .nil) (by kernel_rfl)) Tryz.func58 (by kernel_rfl) (by kernel_rfl)
end Go.Am
