/- The functions of the program as Lean functions, each shown to be what the code computes, part 5. No condition: lemmas for the claim. -/
import Derived.Test.YtecelackdggokaaGreatDoorF0
import Derived.Test.YtecelackdggokaaGreatDoorFSh
import Derived.Test.YtecelackdggokaaGreatDoorF1
import Derived.Test.YtecelackdggokaaGreatDoorF2
import Derived.Test.YtecelackdggokaaGreatDoorF3
import Derived.Test.YtecelackdggokaaGreatDoorF4
set_option linter.unusedVariables false
set_option maxRecDepth 100000
namespace Go.Am
open Go Go.Proofs
abbrev T_strings_Contains : Type 1 := List UInt8 → List UInt8 → {R : Type} → (Bool → Option R) → Option R
structure C_strings_Contains where
  N : Nat
  strings_Index : T_strings_Index
def strings_Contains_ (g : C_strings_Contains) (a1 a2 : List UInt8) {R : Type} (k0 : Bool → Option R) : Option R :=
  (g.strings_Index a1 a2 (fun r3 => k0 (decide (r3 ≥ 0))))
noncomputable def I_strings_Contains [Fuel] : C_strings_Contains := ⟨NN, @strings_Index _⟩
noncomputable def strings_Contains [Fuel] : T_strings_Contains := @strings_Contains_ I_strings_Contains
def SS_strings_Contains (g : T_strings_Contains) : Spec A := fun args => match args with | [.d (.str a1), .d (.str a2)] => fun k => g a1 a2 (fun z0 => k (.d (.bool z0)) [.undef, .undef]) | _ => fun _ => none
noncomputable def code_252 : Code := (Tryz.f252.body).getD .skip
noncomputable def E_strings_Contains (g : C_strings_Contains) : Env A := mkE [(311, SS_strings_Index g.strings_Index)] [] [] [] [] [] [] [] [] []
theorem sm_strings_Contains (g : C_strings_Contains) : Same (SS_strings_Contains (@strings_Contains_ g)) (abody (E_strings_Contains g) Tryz.f252 code_252 0 [] [.asis] g.N) := by intro args; unfold SS_strings_Contains; split; exact .inr fun R k => (by kernel_rfl); exact .inl fun R k => rfl
theorem ok_strings_Contains [Fuel] : Ok 252 (SS_strings_Contains (@strings_Contains _)) := okF_of std (.cons ok_strings_Index .nil) ⟨rfl, rfl, by kernel_rfl, rfl, rfl⟩ (sm_strings_Contains I_strings_Contains) (cuts0 (fun _ => rfl) (by kernel_rfl)) Tryz.func252 (by kernel_rfl) (by kernel_rfl)
abbrev T_R_PartsOf : Type 1 := List UInt8 → {R : Type} → (G_Parts → Bool → Option R) → Option R
structure C_R_PartsOf where
  N : Nat
  strings_Cut : T_strings_Cut
  R_PartsOf_1 : T_R_PartsOf_1
  R_baseAt : T_R_baseAt
  R_begin : T_R_begin
  strings_Contains : T_strings_Contains
def R_PartsOf_ (g : C_R_PartsOf) (a1 : List UInt8) {R : Type} (k0 : G_Parts → Bool → Option R) : Option R :=
  (g.strings_Cut a1 [47] (fun r2 r3 r4 => (bif (decide ((a1.length : Int) > 14)) then k0 (⟨[], [], [], 0, []⟩ : G_Parts) false else (bif (!r4) then (g.R_baseAt r2 (fun r5 => (bif (decide (r5 < 0)) then k0 (⟨[], [], [], 0, []⟩ : G_Parts) false else (g.R_PartsOf_1 r2 (fun r6 => k0 r6 true))))) else (g.R_baseAt r3 (fun r7 => (bif (decide (r7 ≥ 0)) then (g.R_begin r2 (fun r8 => (bif r8 then (g.R_PartsOf_1 r3 (fun r9 => k0 (⟨r9.f_Base, r9.f_Prefix, r9.f_Suffix, 1, r2⟩ : G_Parts) true)) else (g.R_baseAt r2 (fun r10 => (bif (decide (r10 < 0)) then k0 (⟨[], [], [], 0, []⟩ : G_Parts) false else (g.R_PartsOf_1 r2 (fun r11 => (bif (r3 == [112]) then k0 (⟨r11.f_Base, r11.f_Prefix, r11.f_Suffix, 3, r11.f_Added⟩ : G_Parts) true else (bif (r3 == [109]) then k0 (⟨r11.f_Base, r11.f_Prefix, r11.f_Suffix, 4, r11.f_Added⟩ : G_Parts) true else (bif (r3 == [109, 109]) then k0 (⟨r11.f_Base, r11.f_Prefix, r11.f_Suffix, 5, r11.f_Added⟩ : G_Parts) true else (bif (r3 == [97, 109]) then k0 (⟨r11.f_Base, r11.f_Prefix, r11.f_Suffix, 6, r11.f_Added⟩ : G_Parts) true else (bif ((r3.length : Int) == 1) then (g.strings_Contains [48, 49, 50, 51, 52, 53, 54, 55, 56, 57] r3 (fun r12 => (bif r12 then k0 (⟨r11.f_Base, r11.f_Prefix, r11.f_Suffix, 2, r3⟩ : G_Parts) true else (g.R_begin r3 (fun r13 => (bif r13 then k0 (⟨r11.f_Base, r11.f_Prefix, r11.f_Suffix, 1, r3⟩ : G_Parts) true else k0 (⟨[], [], [], 0, []⟩ : G_Parts) false)))))) else (g.R_begin r3 (fun r14 => (bif r14 then k0 (⟨r11.f_Base, r11.f_Prefix, r11.f_Suffix, 1, r3⟩ : G_Parts) true else k0 (⟨[], [], [], 0, []⟩ : G_Parts) false)))))))))))))))) else (g.R_baseAt r2 (fun r15 => (bif (decide (r15 < 0)) then k0 (⟨[], [], [], 0, []⟩ : G_Parts) false else (g.R_PartsOf_1 r2 (fun r16 => (bif (r3 == [112]) then k0 (⟨r16.f_Base, r16.f_Prefix, r16.f_Suffix, 3, r16.f_Added⟩ : G_Parts) true else (bif (r3 == [109]) then k0 (⟨r16.f_Base, r16.f_Prefix, r16.f_Suffix, 4, r16.f_Added⟩ : G_Parts) true else (bif (r3 == [109, 109]) then k0 (⟨r16.f_Base, r16.f_Prefix, r16.f_Suffix, 5, r16.f_Added⟩ : G_Parts) true else (bif (r3 == [97, 109]) then k0 (⟨r16.f_Base, r16.f_Prefix, r16.f_Suffix, 6, r16.f_Added⟩ : G_Parts) true else (bif ((r3.length : Int) == 1) then (g.strings_Contains [48, 49, 50, 51, 52, 53, 54, 55, 56, 57] r3 (fun r17 => (bif r17 then k0 (⟨r16.f_Base, r16.f_Prefix, r16.f_Suffix, 2, r3⟩ : G_Parts) true else (g.R_begin r3 (fun r18 => (bif r18 then k0 (⟨r16.f_Base, r16.f_Prefix, r16.f_Suffix, 1, r3⟩ : G_Parts) true else k0 (⟨[], [], [], 0, []⟩ : G_Parts) false)))))) else (g.R_begin r3 (fun r19 => (bif r19 then k0 (⟨r16.f_Base, r16.f_Prefix, r16.f_Suffix, 1, r3⟩ : G_Parts) true else k0 (⟨[], [], [], 0, []⟩ : G_Parts) false))))))))))))))))))))
noncomputable def I_R_PartsOf [Fuel] : C_R_PartsOf := ⟨NN, @strings_Cut _, @R_PartsOf_1 _, @R_baseAt _, @R_begin _, @strings_Contains _⟩
noncomputable def R_PartsOf [Fuel] : T_R_PartsOf := @R_PartsOf_ I_R_PartsOf
def SS_R_PartsOf (g : T_R_PartsOf) : Spec A := fun args => match args with | [.d (.str a1)] => fun k => g a1 (fun z0 z1 => k (.tup [.agg [.d (.str z0.f_Base), .d (.str z0.f_Prefix), .d (.str z0.f_Suffix), .d (.int .i64 z0.f_Kind), .d (.str z0.f_Added)], .d (.bool z1)]) [.undef]) | _ => fun _ => none
noncomputable def code_180 : Code := (Tryz.f180.body).getD .skip
noncomputable def E_R_PartsOf (g : C_R_PartsOf) : Env A := mkE [(248, SS_strings_Cut g.strings_Cut), (249, SS_R_PartsOf_1 g.R_PartsOf_1), (250, SS_R_baseAt g.R_baseAt), (251, SS_R_begin g.R_begin), (252, SS_strings_Contains g.strings_Contains)] [(2, [0]), (8, [1]), (9, [2])] [] [] [] [] [] [] [] []
theorem sm_R_PartsOf (g : C_R_PartsOf) : Same (SS_R_PartsOf (@R_PartsOf_ g)) (abody (E_R_PartsOf g) Tryz.f180 code_180 3 [] [.asis, .asis] g.N) := by intro args; unfold SS_R_PartsOf; split; exact .inr fun R k => (by kernel_rfl); exact .inl fun R k => rfl
theorem ok_R_PartsOf [Fuel] : Ok 180 (SS_R_PartsOf (@R_PartsOf _)) := okF_of std (.cons ok_strings_Cut (.cons ok_R_PartsOf_1 (.cons ok_R_baseAt (.cons ok_R_begin (.cons ok_strings_Contains .nil))))) ⟨rfl, rfl, by kernel_rfl, rfl, rfl⟩ (sm_R_PartsOf I_R_PartsOf) (cuts0 (fun _ => rfl) (by kernel_rfl)) Tryz.func180 (by kernel_rfl) (by kernel_rfl)
abbrev T_Q_Call : Type 1 := List UInt8 → {R : Type} → (Bool → Option R) → Option R
structure C_Q_Call where
  N : Nat
  R_PartsOf : T_R_PartsOf
def Q_Call_ (g : C_Q_Call) (a1 : List UInt8) {R : Type} (k0 : Bool → Option R) : Option R :=
  (g.R_PartsOf a1 (fun r2 r3 => k0 r3))
noncomputable def I_Q_Call [Fuel] : C_Q_Call := ⟨NN, @R_PartsOf _⟩
noncomputable def Q_Call [Fuel] : T_Q_Call := @Q_Call_ I_Q_Call
def SS_Q_Call (g : T_Q_Call) : Spec A := fun args => match args with | [.d (.str a1)] => fun k => g a1 (fun z0 => k (.d (.bool z0)) [.undef]) | _ => fun _ => none
noncomputable def code_116 : Code := (Tryz.f116.body).getD .skip
noncomputable def E_Q_Call (g : C_Q_Call) : Env A := mkE [(180, SS_R_PartsOf g.R_PartsOf)] [(3, [0])] [] [] [] [] [] [] [] []
theorem sm_Q_Call (g : C_Q_Call) : Same (SS_Q_Call (@Q_Call_ g)) (abody (E_Q_Call g) Tryz.f116 code_116 1 [] [.asis] g.N) := by intro args; unfold SS_Q_Call; split; exact .inr fun R k => (by kernel_rfl); exact .inl fun R k => rfl
theorem ok_Q_Call [Fuel] : Ok 116 (SS_Q_Call (@Q_Call _)) := okF_of std (.cons ok_R_PartsOf .nil) ⟨rfl, rfl, by kernel_rfl, rfl, rfl⟩ (sm_Q_Call I_Q_Call) (cuts0 (fun _ => rfl) (by kernel_rfl)) Tryz.func116 (by kernel_rfl) (by kernel_rfl)
abbrev T_Q_only : Type 1 := List UInt8 → List UInt8 → {R : Type} → (Bool → Option R) → Option R
structure C_Q_only where
  N : Nat
  strings_IndexByte : T_strings_IndexByte
def Q_only_L2 (g : C_Q_only) : Nat → List UInt8 → List UInt8 → Int → Int → {R : Type} → (Bool → Option R) → Option R → Option R
  | 0, _, _, _, _, _, _, _ => none
  | n + 1, v3, v4, v5, v6, _, e0, e1 => (bif (decide (v6 < v5)) then (get_ v3 v6 fun x9 => (g.strings_IndexByte v4 (x9.toNat : Int) (fun r10 => (bif (decide (r10 < 0)) then e0 false else Q_only_L2 g n v3 v4 v5 (w64 (v6 + 1)) e0 e1)))) else e1)
def Q_only_ (g : C_Q_only) (a1 a2 : List UInt8) {R : Type} (k0 : Bool → Option R) : Option R :=
  (Q_only_L2 g g.N a1 a2 (a1.length : Int) 0 (fun e11 => k0 e11) (k0 true))
noncomputable def I_Q_only [Fuel] : C_Q_only := ⟨NN, @strings_IndexByte _⟩
noncomputable def Q_only [Fuel] : T_Q_only := @Q_only_ I_Q_only
def SS_Q_only (g : T_Q_only) : Spec A := fun args => match args with | [.d (.str a1), .d (.str a2)] => fun k => g a1 a2 (fun z0 => k (.d (.bool z0)) [.undef, .undef]) | _ => fun _ => none
def sh_Q_only_L2 : SSt := mkSh 18 0 [(0, .str), (1, .str), (7, .int .i64), (8, .int .i64)] []
def LP_Q_only_L2 (g : C_Q_only) (n : Nat) : LPT A := fun ps => match ps with | [.d (.str p1), .d (.str p2), .d (.int .i64 p3), .d (.int .i64 p4)] => fun K => Q_only_L2 g n p1 p2 p3 p4 (fun z0 => K .ret (mkSt 18 0 [(4, .d (.bool z0))] [])) (K (.exit 0) (mkSt 18 0 [] [])) | _ => fun _ => none
noncomputable def code_181 : Code := (Tryz.f181.body).getD .skip
noncomputable def E_Q_only (g : C_Q_only) : Env A := mkE [(185, SS_strings_IndexByte g.strings_IndexByte)] [] [(2, ⟨[0, 1, 7, 8], [], [], []⟩)] [(2, ⟨[4], [], [], []⟩)] [(2, pieceOf sh_Q_only_L2 (LP_Q_only_L2 g g.N))] [] [] [] [] []
theorem ct_Q_only [Fuel] : NatTab (E_Q_only I_Q_only).C := ct_of (P := Tryz.prog) (T := T) (.cons ok_strings_IndexByte .nil) (by kernel_rfl)
noncomputable def cb_Q_only_L2 : Code := sub [1, 0, 1, 0, 0] code_181
theorem s_Q_only_L2 (g : C_Q_only) (n : Nat) : StepOk (E_Q_only g) g.N cb_Q_only_L2 sh_Q_only_L2 (LP_Q_only_L2 g) n := by intro ps; unfold LP_Q_only_L2; split; exact .inr fun R K => (by kernel_rfl); exact .inl fun R K => rfl
theorem lf_Q_only_L2 [Fuel] : LoopFine (E_Q_only I_Q_only) NN cb_Q_only_L2 := fine_loop sh_Q_only_L2 (LP_Q_only_L2 I_Q_only) (by kernel_rfl) ct_Q_only (cuts0 (fun _ => rfl) (by kernel_rfl)) (fun ps R K => by unfold LP_Q_only_L2; split <;> (try unfold Q_only_L2) <;> rfl) (s_Q_only_L2 I_Q_only)
theorem sm_Q_only (g : C_Q_only) : Same (SS_Q_only (@Q_only_ g)) (abody (E_Q_only g) Tryz.f181 code_181 0 [] [.asis] g.N) := by intro args; unfold SS_Q_only; split; exact .inr fun R k => (by kernel_rfl); exact .inl fun R k => rfl
theorem ok_Q_only [Fuel] : Ok 181 (SS_Q_only (@Q_only _)) := okF_of std (.cons ok_strings_IndexByte .nil) ⟨rfl, rfl, by kernel_rfl, rfl, rfl⟩ (sm_Q_only I_Q_only) (cutsL (fun _ => rfl) (.cons lf_Q_only_L2 .nil) (by kernel_rfl)) Tryz.func181 (by kernel_rfl) (by kernel_rfl)
abbrev T_Q_Key : Type 1 := List UInt8 → {R : Type} → (Bool → Option R) → Option R
structure C_Q_Key where
  N : Nat
  Q_in : T_Q_in
  Q_only : T_Q_only
def Q_Key_ (g : C_Q_Key) (a1 : List UInt8) {R : Type} (k0 : Bool → Option R) : Option R :=
  (g.Q_in (a1.length : Int) 1 40 (fun r2 => (bif r2 then (bif (decide (0 ≤ 1) && decide (1 ≤ (a1.length : Int))) then (g.Q_only (a1.take (1 : Int).toNat) [97, 98, 99, 100, 101, 102, 103, 104, 105, 106, 107, 108, 109, 110, 111, 112, 113, 114, 115, 116, 117, 118, 119, 120, 121, 122] (fun r3 => (bif r3 then (g.Q_only a1 [97, 98, 99, 100, 101, 102, 103, 104, 105, 106, 107, 108, 109, 110, 111, 112, 113, 114, 115, 116, 117, 118, 119, 120, 121, 122, 48, 49, 50, 51, 52, 53, 54, 55, 56, 57, 45, 95] (fun r4 => k0 r4)) else k0 false))) else none) else k0 false)))
noncomputable def I_Q_Key [Fuel] : C_Q_Key := ⟨NN, @Q_in _, @Q_only _⟩
noncomputable def Q_Key [Fuel] : T_Q_Key := @Q_Key_ I_Q_Key
def SS_Q_Key (g : T_Q_Key) : Spec A := fun args => match args with | [.d (.str a1)] => fun k => g a1 (fun z0 => k (.d (.bool z0)) [.undef]) | _ => fun _ => none
noncomputable def code_117 : Code := (Tryz.f117.body).getD .skip
noncomputable def E_Q_Key (g : C_Q_Key) : Env A := mkE [(86, SS_Q_in g.Q_in), (181, SS_Q_only g.Q_only)] [] [] [] [] [] [] [] [] []
theorem sm_Q_Key (g : C_Q_Key) : Same (SS_Q_Key (@Q_Key_ g)) (abody (E_Q_Key g) Tryz.f117 code_117 0 [] [.asis] g.N) := by intro args; unfold SS_Q_Key; split; exact .inr fun R k => (by kernel_rfl); exact .inl fun R k => rfl
theorem ok_Q_Key [Fuel] : Ok 117 (SS_Q_Key (@Q_Key _)) := okF_of std (.cons ok_Q_in (.cons ok_Q_only .nil)) ⟨rfl, rfl, by kernel_rfl, rfl, rfl⟩ (sm_Q_Key I_Q_Key) (cuts0 (fun _ => rfl) (by kernel_rfl)) Tryz.func117 (by kernel_rfl) (by kernel_rfl)
abbrev T_Q_CardsFault : Type 1 := List G_Card → {R : Type} → (Int → Option R) → Option R
structure C_Q_CardsFault where
  N : Nat
  Q_in : T_Q_in
  Q_CardOrder : T_Q_CardOrder
  Q_Moment : T_Q_Moment
  Q_Call : T_Q_Call
  Q_Key : T_Q_Key
def Q_CardsFault_L4 (g : C_Q_CardsFault) : Nat → List G_Card → List G_Card → Int → Int → {R : Type} → (Int → Option R) → Option R → Option R
  | 0, _, _, _, _, _, _, _ => none
  | n + 1, v2, v3, v4, v5, _, e0, e1 => (bif (decide (v5 < v4)) then (get_ v3 v5 fun x14 => (g.Q_Moment x14.f_At (fun r15 => (bif (!r15) then e0 1 else (g.Q_in x14.f_Kind 1 3 (fun r16 => (bif (!r16) then e0 4 else (g.Q_in x14.f_Mode 1 3 (fun r17 => (bif (!r17) then e0 4 else (g.Q_Call x14.f_Call (fun r18 => (bif (!r18) then e0 3 else (g.Q_Key x14.f_Band (fun r19 => (bif (!r19) then e0 5 else (bif (decide (v5 > 0)) then (get_ v2 (w64 (v5 - 1)) fun x20 => (g.Q_CardOrder x20 x14 (fun r21 => (bif (decide (r21 ≥ 0)) then e0 7 else Q_CardsFault_L4 g n v2 v3 v4 (w64 (v5 + 1)) e0 e1)))) else Q_CardsFault_L4 g n v2 v3 v4 (w64 (v5 + 1)) e0 e1))))))))))))))))) else e1)
def Q_CardsFault_ (g : C_Q_CardsFault) (a1 : List G_Card) {R : Type} (k0 : Int → Option R) : Option R :=
  (bif (decide ((a1.length : Int) > 3000)) then k0 2 else (Q_CardsFault_L4 g g.N a1 a1 (a1.length : Int) 0 (fun e22 => k0 e22) (k0 0)))
noncomputable def I_Q_CardsFault [Fuel] : C_Q_CardsFault := ⟨NN, @Q_in _, @Q_CardOrder _, @Q_Moment _, @Q_Call _, @Q_Key _⟩
noncomputable def Q_CardsFault [Fuel] : T_Q_CardsFault := @Q_CardsFault_ I_Q_CardsFault
def SS_Q_CardsFault (g : T_Q_CardsFault) : Spec A := fun args => match args with | [.d (.sl 66 a1)] => fun k => g a1 (fun z0 => k (.d (.int .i64 z0)) [.undef]) | _ => fun _ => none
def sh_Q_CardsFault_L4 : SSt := mkSh 55 1 [(0, .sl 66), (8, .sl 66), (9, .int .i64), (10, .int .i64)] []
def LP_Q_CardsFault_L4 (g : C_Q_CardsFault) (n : Nat) : LPT A := fun ps => match ps with | [.d (.sl 66 p1), .d (.sl 66 p2), .d (.int .i64 p3), .d (.int .i64 p4)] => fun K => Q_CardsFault_L4 g n p1 p2 p3 p4 (fun z0 => K .ret (mkSt 55 1 [(2, .d (.int .i64 z0))] [])) (K (.exit 0) (mkSt 55 1 [] [])) | _ => fun _ => none
noncomputable def code_30 : Code := (Tryz.f30.body).getD .skip
noncomputable def E_Q_CardsFault (g : C_Q_CardsFault) : Env A := mkE [(86, SS_Q_in g.Q_in), (102, SS_Q_CardOrder g.Q_CardOrder), (115, SS_Q_Moment g.Q_Moment), (116, SS_Q_Call g.Q_Call), (117, SS_Q_Key g.Q_Key)] [(4, [0])] [(4, ⟨[0, 8, 9, 10], [], [], []⟩)] [(4, ⟨[2], [], [], []⟩)] [(4, pieceOf sh_Q_CardsFault_L4 (LP_Q_CardsFault_L4 g g.N))] [] [] [] [] []
theorem ct_Q_CardsFault [Fuel] : NatTab (E_Q_CardsFault I_Q_CardsFault).C := ct_of (P := Tryz.prog) (T := T) (.cons ok_Q_in (.cons ok_Q_CardOrder (.cons ok_Q_Moment (.cons ok_Q_Call (.cons ok_Q_Key .nil))))) (by kernel_rfl)
noncomputable def cb_Q_CardsFault_L4 : Code := sub [1, 1, 0, 1, 0, 0] code_30
theorem s_Q_CardsFault_L4 (g : C_Q_CardsFault) (n : Nat) : StepOk (E_Q_CardsFault g) g.N cb_Q_CardsFault_L4 sh_Q_CardsFault_L4 (LP_Q_CardsFault_L4 g) n := by intro ps; unfold LP_Q_CardsFault_L4; split; exact .inr fun R K => (by kernel_rfl); exact .inl fun R K => rfl
theorem lf_Q_CardsFault_L4 [Fuel] : LoopFine (E_Q_CardsFault I_Q_CardsFault) NN cb_Q_CardsFault_L4 := fine_loop sh_Q_CardsFault_L4 (LP_Q_CardsFault_L4 I_Q_CardsFault) (by kernel_rfl) ct_Q_CardsFault (cuts0 (fun _ => rfl) (by kernel_rfl)) (fun ps R K => by unfold LP_Q_CardsFault_L4; split <;> (try unfold Q_CardsFault_L4) <;> rfl) (s_Q_CardsFault_L4 I_Q_CardsFault)
theorem sm_Q_CardsFault (g : C_Q_CardsFault) : Same (SS_Q_CardsFault (@Q_CardsFault_ g)) (abody (E_Q_CardsFault g) Tryz.f30 code_30 1 [] [.asis] g.N) := by intro args; unfold SS_Q_CardsFault; split; exact .inr fun R k => (by kernel_rfl); exact .inl fun R k => rfl
theorem ok_Q_CardsFault [Fuel] : Ok 30 (SS_Q_CardsFault (@Q_CardsFault _)) := okF_of std (.cons ok_Q_in (.cons ok_Q_CardOrder (.cons ok_Q_Moment (.cons ok_Q_Call (.cons ok_Q_Key .nil))))) ⟨rfl, rfl, by kernel_rfl, rfl, rfl⟩ (sm_Q_CardsFault I_Q_CardsFault) (cutsL (fun _ => rfl) (.cons lf_Q_CardsFault_L4 .nil) (by kernel_rfl)) Tryz.func30 (by kernel_rfl) (by kernel_rfl)
abbrev T_law_errs : Type 1 := List Int → {R : Type} → (Int → Option R) → Option R
def law_errs_L2 (g : Nat) : Nat → List Int → Int → Int → {R : Type} → (Int → Option R) → Option R → Option R
  | 0, _, _, _, _, _, _ => none
  | n + 1, v2, v3, v4, _, e0, e1 => (bif (decide (v4 < v3)) then (get_ v2 v4 fun x6 => (bif (x6 != 0) then e0 x6 else law_errs_L2 g n v2 v3 (w64 (v4 + 1)) e0 e1)) else e1)
def law_errs_ (g : Nat) (a1 : List Int) {R : Type} (k0 : Int → Option R) : Option R :=
  (law_errs_L2 g g a1 (a1.length : Int) 0 (fun e7 => k0 e7) (k0 0))
noncomputable def law_errs [Fuel] : T_law_errs := @law_errs_ NN
def SS_law_errs (g : T_law_errs) : Spec A := fun args => match args with | [.d (.sl 38 a1)] => fun k => g a1 (fun z0 => k (.d (.int .i64 z0)) [.undef]) | _ => fun _ => none
def sh_law_errs_L2 : SSt := mkSh 15 0 [(5, .sl 38), (6, .int .i64), (7, .int .i64)] []
def LP_law_errs_L2 (g : Nat) (n : Nat) : LPT A := fun ps => match ps with | [.d (.sl 38 p1), .d (.int .i64 p2), .d (.int .i64 p3)] => fun K => law_errs_L2 g n p1 p2 p3 (fun z0 => K .ret (mkSt 15 0 [(2, .d (.int .i64 z0))] [])) (K (.exit 0) (mkSt 15 0 [] [])) | _ => fun _ => none
noncomputable def code_15 : Code := (Tryz.f15.body).getD .skip
noncomputable def E_law_errs (g : Nat) : Env A := mkE [] [] [(2, ⟨[5, 6, 7], [], [], []⟩)] [(2, ⟨[2], [], [], []⟩)] [(2, pieceOf sh_law_errs_L2 (LP_law_errs_L2 g g))] [] [] [] [] []
theorem ct_law_errs [Fuel] : NatTab (E_law_errs NN).C := ct_of (P := Tryz.prog) (T := T) .nil (by kernel_rfl)
noncomputable def cb_law_errs_L2 : Code := sub [1, 0, 1, 0, 0] code_15
theorem s_law_errs_L2 (g : Nat) (n : Nat) : StepOk (E_law_errs g) g cb_law_errs_L2 sh_law_errs_L2 (LP_law_errs_L2 g) n := by intro ps; unfold LP_law_errs_L2; split; exact .inr fun R K => (by kernel_rfl); exact .inl fun R K => rfl
theorem lf_law_errs_L2 [Fuel] : LoopFine (E_law_errs NN) NN cb_law_errs_L2 := fine_loop sh_law_errs_L2 (LP_law_errs_L2 NN) (by kernel_rfl) ct_law_errs (cuts0 (fun _ => rfl) (by kernel_rfl)) (fun ps R K => by unfold LP_law_errs_L2; split <;> (try unfold law_errs_L2) <;> rfl) (s_law_errs_L2 NN)
theorem sm_law_errs (g : Nat) : Same (SS_law_errs (@law_errs_ g)) (abody (E_law_errs g) Tryz.f15 code_15 0 [] [.asis] g) := by intro args; unfold SS_law_errs; split; exact .inr fun R k => (by kernel_rfl); exact .inl fun R k => rfl
theorem ok_law_errs [Fuel] : Ok 15 (SS_law_errs (@law_errs _)) := okF_of std .nil ⟨rfl, rfl, by kernel_rfl, rfl, rfl⟩ (sm_law_errs NN) (cutsL (fun _ => rfl) (.cons lf_law_errs_L2 .nil) (by kernel_rfl)) Tryz.func15 (by kernel_rfl) (by kernel_rfl)
abbrev T_Q_MomentFault : Type 1 := Int → {R : Type} → (Int → Option R) → Option R
structure C_Q_MomentFault where
  N : Nat
  Q_Moment : T_Q_Moment
def Q_MomentFault_ (g : C_Q_MomentFault) (a1 : Int) {R : Type} (k0 : Int → Option R) : Option R :=
  (g.Q_Moment a1 (fun r2 => (bif (!r2) then k0 1 else k0 0)))
noncomputable def I_Q_MomentFault [Fuel] : C_Q_MomentFault := ⟨NN, @Q_Moment _⟩
noncomputable def Q_MomentFault [Fuel] : T_Q_MomentFault := @Q_MomentFault_ I_Q_MomentFault
def SS_Q_MomentFault (g : T_Q_MomentFault) : Spec A := fun args => match args with | [.d (.int .i64 a1)] => fun k => g a1 (fun z0 => k (.d (.int .i64 z0)) [.undef]) | _ => fun _ => none
noncomputable def code_31 : Code := (Tryz.f31.body).getD .skip
noncomputable def E_Q_MomentFault (g : C_Q_MomentFault) : Env A := mkE [(115, SS_Q_Moment g.Q_Moment)] [] [] [] [] [] [] [] [] []
theorem sm_Q_MomentFault (g : C_Q_MomentFault) : Same (SS_Q_MomentFault (@Q_MomentFault_ g)) (abody (E_Q_MomentFault g) Tryz.f31 code_31 0 [] [.asis] g.N) := by intro args; unfold SS_Q_MomentFault; split; exact .inr fun R k => (by kernel_rfl); exact .inl fun R k => rfl
theorem ok_Q_MomentFault [Fuel] : Ok 31 (SS_Q_MomentFault (@Q_MomentFault _)) := okF_of std (.cons ok_Q_Moment .nil) ⟨rfl, rfl, by kernel_rfl, rfl, rfl⟩ (sm_Q_MomentFault I_Q_MomentFault) (cuts0 (fun _ => rfl) (by kernel_rfl)) Tryz.func31 (by kernel_rfl) (by kernel_rfl)
abbrev T_slices_SortFunc__Card_Q_CardOrder : Type 1 := List G_Card → {R : Type} → (List G_Card → Option R) → Option R
noncomputable def slices_SortFunc__Card_Q_CardOrder [Fuel] : T_slices_SortFunc__Card_Q_CardOrder := @X_sortf G_Card (@Q_CardOrder _)
def SS_slices_SortFunc__Card_Q_CardOrder (g : T_slices_SortFunc__Card_Q_CardOrder) : Spec A := fun args => match args with | [.arr 66 a1, .fn 102 []] => fun k => g a1 (fun z => k (.tup []) [.arr 66 z, .fn 102 []]) | _ => fun _ => none
theorem h1_slices_SortFunc__Card_Q_CardOrder [Fuel] (xs : List (A 66)) (R : Type) (k : IV A → List (IV A) → Option R) : SS_slices_SortFunc__Card_Q_CardOrder (@slices_SortFunc__Card_Q_CardOrder _) [.arr 66 xs, .fn 102 []] k = X_sortf (α := A 66) (@Q_CardOrder _) xs (fun z => k (.tup []) [.arr 66 z, .fn 102 []]) := by kernel_rfl
theorem h2_slices_SortFunc__Card_Q_CardOrder [Fuel] (args : List (IV A)) (R : Type) (k : IV A → List (IV A) → Option R) (h : ∀ xs : List (A 66), args ≠ [.arr 66 xs, .fn 102 []]) : SS_slices_SortFunc__Card_Q_CardOrder (@slices_SortFunc__Card_Q_CardOrder _) args k = none := by unfold SS_slices_SortFunc__Card_Q_CardOrder; split; exact absurd rfl (h _); rfl
theorem hc_slices_SortFunc__Card_Q_CardOrder [Fuel] (x y : A 66) (R : Type) (k : Int → Option R) : callOf T (SS_Q_CardOrder (@Q_CardOrder _)) 66 x y k = @Q_CardOrder _ x y R k := by kernel_rfl
theorem hs_slices_SortFunc__Card_Q_CardOrder (x : G_Card) : (enc_e66 x).all scal = true := rfl
theorem ok_slices_SortFunc__Card_Q_CardOrder [Fuel] : Ok 105 (SS_slices_SortFunc__Card_Q_CardOrder (@slices_SortFunc__Card_Q_CardOrder _)) := ⟨sortf_sound (tyOk Tryz.prog) (e := 66) Tryz.sortf105 Tryz.isAgg66 Tryz.sizeOf66 (fun x d hd => List.all_eq_true.1 (hs_slices_SortFunc__Card_Q_CardOrder x) d hd) hc_slices_SortFunc__Card_Q_CardOrder okd_Q_CardOrder.fs okd_Q_CardOrder.en h1_slices_SortFunc__Card_Q_CardOrder h2_slices_SortFunc__Card_Q_CardOrder, sortf_na (e := 66) h1_slices_SortFunc__Card_Q_CardOrder h2_slices_SortFunc__Card_Q_CardOrder, enters_of (fn := Tryz.f105) Tryz.func105 (by kernel_rfl) (by kernel_rfl)⟩
abbrev T_Q_CardsOf : Type 1 := List G_Card → List G_Card → {R : Type} → (List G_Card → Int → Option R) → Option R
structure C_Q_CardsOf where
  N : Nat
  slices_Compact__Card : T_slices_Compact__Card
  slices_Concat__Card : T_slices_Concat__Card
  slices_SortFunc__Card_Q_CardOrder : T_slices_SortFunc__Card_Q_CardOrder
def Q_CardsOf_ (g : C_Q_CardsOf) (a1 a2 : List G_Card) {R : Type} (k0 : List G_Card → Int → Option R) : Option R :=
  (g.slices_Concat__Card [a1, a2] (fun r3 => (g.slices_SortFunc__Card_Q_CardOrder r3 (fun r4 => (g.slices_Compact__Card r4 (fun r5 => (bif (decide ((r5.length : Int) > 3000)) then k0 [] 2 else k0 r5 0)))))))
noncomputable def I_Q_CardsOf [Fuel] : C_Q_CardsOf := ⟨NN, @slices_Compact__Card _, @slices_Concat__Card _, @slices_SortFunc__Card_Q_CardOrder _⟩
noncomputable def Q_CardsOf [Fuel] : T_Q_CardsOf := @Q_CardsOf_ I_Q_CardsOf
def SS_Q_CardsOf (g : T_Q_CardsOf) : Spec A := fun args => match args with | [.d (.sl 66 a1), .d (.sl 66 a2)] => fun k => g a1 a2 (fun z0 z1 => k (.tup [.arr 66 z0, .d (.int .i64 z1)]) [.undef, .undef]) | _ => fun _ => none
noncomputable def code_32 : Code := (Tryz.f32.body).getD .skip
noncomputable def E_Q_CardsOf (g : C_Q_CardsOf) : Env A := mkE [(103, SS_slices_Compact__Card g.slices_Compact__Card), (104, SS_slices_Concat__Card g.slices_Concat__Card), (105, SS_slices_SortFunc__Card_Q_CardOrder g.slices_SortFunc__Card_Q_CardOrder)] [(9, [0]), (10, [1]), (14, [2])] [] [] [] [] [] [] [(103, 0), (105, 0)] []
theorem sm_Q_CardsOf (g : C_Q_CardsOf) : Same (SS_Q_CardsOf (@Q_CardsOf_ g)) (abody (E_Q_CardsOf g) Tryz.f32 code_32 3 [] [.arr 66, .asis] g.N) := by intro args; unfold SS_Q_CardsOf; split; exact .inr fun R k => (by kernel_rfl); exact .inl fun R k => rfl
theorem ok_Q_CardsOf [Fuel] : Ok 32 (SS_Q_CardsOf (@Q_CardsOf _)) := okF_of std (.cons ok_slices_Compact__Card (.cons ok_slices_Concat__Card (.cons ok_slices_SortFunc__Card_Q_CardOrder .nil))) ⟨rfl, rfl, by kernel_rfl, rfl, rfl⟩ (sm_Q_CardsOf I_Q_CardsOf) (cuts0 (fun _ => rfl) (by kernel_rfl)) Tryz.func32 (by kernel_rfl) (by kernel_rfl)
abbrev T_Q_BaseOf : Type 1 := List UInt8 → {R : Type} → (List UInt8 → Option R) → Option R
structure C_Q_BaseOf where
  N : Nat
  R_PartsOf : T_R_PartsOf
def Q_BaseOf_ (g : C_Q_BaseOf) (a1 : List UInt8) {R : Type} (k0 : List UInt8 → Option R) : Option R :=
  (g.R_PartsOf a1 (fun r2 r3 => k0 r2.f_Base))
noncomputable def I_Q_BaseOf [Fuel] : C_Q_BaseOf := ⟨NN, @R_PartsOf _⟩
noncomputable def Q_BaseOf [Fuel] : T_Q_BaseOf := @Q_BaseOf_ I_Q_BaseOf
def SS_Q_BaseOf (g : T_Q_BaseOf) : Spec A := fun args => match args with | [.d (.str a1)] => fun k => g a1 (fun z0 => k (.d (.str z0)) [.undef]) | _ => fun _ => none
noncomputable def code_122 : Code := (Tryz.f122.body).getD .skip
noncomputable def E_Q_BaseOf (g : C_Q_BaseOf) : Env A := mkE [(180, SS_R_PartsOf g.R_PartsOf)] [(3, [0])] [] [] [] [] [] [] [] []
theorem sm_Q_BaseOf (g : C_Q_BaseOf) : Same (SS_Q_BaseOf (@Q_BaseOf_ g)) (abody (E_Q_BaseOf g) Tryz.f122 code_122 1 [] [.asis] g.N) := by intro args; unfold SS_Q_BaseOf; split; exact .inr fun R k => (by kernel_rfl); exact .inl fun R k => rfl
theorem ok_Q_BaseOf [Fuel] : Ok 122 (SS_Q_BaseOf (@Q_BaseOf _)) := okF_of std (.cons ok_R_PartsOf .nil) ⟨rfl, rfl, by kernel_rfl, rfl, rfl⟩ (sm_Q_BaseOf I_Q_BaseOf) (cuts0 (fun _ => rfl) (by kernel_rfl)) Tryz.func122 (by kernel_rfl) (by kernel_rfl)
abbrev T_Q_with : Type 1 := G_Card → G_Card → {R : Type} → (Bool → Option R) → Option R
structure C_Q_with where
  N : Nat
  Q_BaseOf : T_Q_BaseOf
def Q_with_ (g : C_Q_with) (a1 a2 : G_Card) {R : Type} (k0 : Bool → Option R) : Option R :=
  (g.Q_BaseOf a1.f_Call (fun r3 => (g.Q_BaseOf a2.f_Call (fun r4 => (bif (r3 == r4) then (bif (a1.f_Band == a2.f_Band) then k0 (a1.f_Mode == a2.f_Mode) else k0 false) else k0 false)))))
noncomputable def I_Q_with [Fuel] : C_Q_with := ⟨NN, @Q_BaseOf _⟩
noncomputable def Q_with [Fuel] : T_Q_with := @Q_with_ I_Q_with
def SS_Q_with (g : T_Q_with) : Spec A := fun args => match args with | [.agg [.d (.int .i64 a1), .d (.int .i64 a2), .d (.int .i64 a3), .d (.str a4), .d (.str a5)], .agg [.d (.int .i64 a6), .d (.int .i64 a7), .d (.int .i64 a8), .d (.str a9), .d (.str a10)]] => fun k => g ⟨a1, a2, a3, a4, a5⟩ ⟨a6, a7, a8, a9, a10⟩ (fun z0 => k (.d (.bool z0)) [.undef, .undef]) | _ => fun _ => none
noncomputable def code_120 : Code := (Tryz.f120.body).getD .skip
noncomputable def E_Q_with (g : C_Q_with) : Env A := mkE [(122, SS_Q_BaseOf g.Q_BaseOf)] [(2, [0]), (3, [1])] [] [] [] [] [] [] [] []
theorem sm_Q_with (g : C_Q_with) : Same (SS_Q_with (@Q_with_ g)) (abody (E_Q_with g) Tryz.f120 code_120 2 [] [.asis] g.N) := by intro args; unfold SS_Q_with; split; exact .inr fun R k => (by kernel_rfl); exact .inl fun R k => rfl
theorem ok_Q_with [Fuel] : Ok 120 (SS_Q_with (@Q_with _)) := okF_of std (.cons ok_Q_BaseOf .nil) ⟨rfl, rfl, by kernel_rfl, rfl, rfl⟩ (sm_Q_with I_Q_with) (cuts0 (fun _ => rfl) (by kernel_rfl)) Tryz.func120 (by kernel_rfl) (by kernel_rfl)
abbrev T_Q_ConfirmedBy_1 : Type 1 := G_Card → G_Card → {R : Type} → (Bool → G_Card → Option R) → Option R
structure C_Q_ConfirmedBy_1 where
  N : Nat
  Q_with : T_Q_with
def Q_ConfirmedBy_1_ (g : C_Q_ConfirmedBy_1) (a1 a2 : G_Card) {R : Type} (k0 : Bool → G_Card → Option R) : Option R :=
  (g.Q_with a1 a2 (fun r3 => k0 r3 a2))
noncomputable def I_Q_ConfirmedBy_1 [Fuel] : C_Q_ConfirmedBy_1 := ⟨NN, @Q_with _⟩
noncomputable def Q_ConfirmedBy_1 [Fuel] : T_Q_ConfirmedBy_1 := @Q_ConfirmedBy_1_ I_Q_ConfirmedBy_1
def SS_Q_ConfirmedBy_1 (g : T_Q_ConfirmedBy_1) : Spec A := fun args => match args with | [.agg [.d (.int .i64 a1), .d (.int .i64 a2), .d (.int .i64 a3), .d (.str a4), .d (.str a5)], .box [.d (.int .i64 a6), .d (.int .i64 a7), .d (.int .i64 a8), .d (.str a9), .d (.str a10)]] => fun k => g ⟨a1, a2, a3, a4, a5⟩ ⟨a6, a7, a8, a9, a10⟩ (fun z0 z1 => k (.d (.bool z0)) [.undef, .box [.d (.int .i64 z1.f_At), .d (.int .i64 z1.f_Kind), .d (.int .i64 z1.f_Mode), .d (.str z1.f_Call), .d (.str z1.f_Band)]]) | _ => fun _ => none
noncomputable def code_119 : Code := (Tryz.f119.body).getD .skip
noncomputable def E_Q_ConfirmedBy_1 (g : C_Q_ConfirmedBy_1) : Env A := mkE [(120, SS_Q_with g.Q_with)] [(2, [1])] [] [] [] [] [] [] [] [1]
theorem sm_Q_ConfirmedBy_1 (g : C_Q_ConfirmedBy_1) : Same (SS_Q_ConfirmedBy_1 (@Q_ConfirmedBy_1_ g)) (abody (E_Q_ConfirmedBy_1 g) Tryz.f119 code_119 2 [0] [.asis] g.N) := by intro args; unfold SS_Q_ConfirmedBy_1; split; exact .inr fun R k => (by kernel_rfl); exact .inl fun R k => rfl
theorem ok_Q_ConfirmedBy_1 [Fuel] : Ok 119 (SS_Q_ConfirmedBy_1 (@Q_ConfirmedBy_1 _)) := okF_of std (.cons ok_Q_with .nil) ⟨rfl, rfl, by kernel_rfl, rfl, rfl⟩ (sm_Q_ConfirmedBy_1 I_Q_ConfirmedBy_1) (cuts0 (fun _ => rfl) (by kernel_rfl)) Tryz.func119 (by kernel_rfl) (by kernel_rfl)
abbrev T_slices_IndexFunc__Card_Q_ConfirmedBy_1 : Type 1 := List G_Card → G_Card → {R : Type} → (Int → G_Card → Option R) → Option R
structure C_slices_IndexFunc__Card_Q_ConfirmedBy_1 where
  N : Nat
  Q_ConfirmedBy_1 : T_Q_ConfirmedBy_1
def slices_IndexFunc__Card_Q_ConfirmedBy_1_L2 (g : C_slices_IndexFunc__Card_Q_ConfirmedBy_1) : Nat → List G_Card → Int → Int → G_Card → {R : Type} → (Int → G_Card → Option R) → (G_Card → Option R) → Option R
  | 0, _, _, _, _, _, _, _ => none
  | n + 1, v3, v4, v5, v6, _, e0, e1 => (bif (decide (v5 < v4)) then (get_ v3 v5 fun x10 => (g.Q_ConfirmedBy_1 x10 v6 (fun r11 r12 => (bif r11 then e0 v5 r12 else slices_IndexFunc__Card_Q_ConfirmedBy_1_L2 g n v3 v4 (w64 (v5 + 1)) r12 e0 e1)))) else e1 v6)
def slices_IndexFunc__Card_Q_ConfirmedBy_1_ (g : C_slices_IndexFunc__Card_Q_ConfirmedBy_1) (a1 : List G_Card) (a2 : G_Card) {R : Type} (k0 : Int → G_Card → Option R) : Option R :=
  (slices_IndexFunc__Card_Q_ConfirmedBy_1_L2 g g.N a1 (a1.length : Int) 0 a2 (fun e13 e14 => k0 e13 e14) (fun e15 => k0 (-1) e15))
noncomputable def I_slices_IndexFunc__Card_Q_ConfirmedBy_1 [Fuel] : C_slices_IndexFunc__Card_Q_ConfirmedBy_1 := ⟨NN, @Q_ConfirmedBy_1 _⟩
noncomputable def slices_IndexFunc__Card_Q_ConfirmedBy_1 [Fuel] : T_slices_IndexFunc__Card_Q_ConfirmedBy_1 := @slices_IndexFunc__Card_Q_ConfirmedBy_1_ I_slices_IndexFunc__Card_Q_ConfirmedBy_1
def SS_slices_IndexFunc__Card_Q_ConfirmedBy_1 (g : T_slices_IndexFunc__Card_Q_ConfirmedBy_1) : Spec A := fun args => match args with | [.d (.sl 66 a1), .fn 119 [.box [.d (.int .i64 a2), .d (.int .i64 a3), .d (.int .i64 a4), .d (.str a5), .d (.str a6)]]] => fun k => g a1 ⟨a2, a3, a4, a5, a6⟩ (fun z0 z1 => k (.d (.int .i64 z0)) [.undef, .fn 119 [.box [.d (.int .i64 z1.f_At), .d (.int .i64 z1.f_Kind), .d (.int .i64 z1.f_Mode), .d (.str z1.f_Call), .d (.str z1.f_Band)]]]) | _ => fun _ => none
def sh_slices_IndexFunc__Card_Q_ConfirmedBy_1_L2 : SSt := mkSh 19 1 [(0, .sl 66), (1, .fn 119 [.ptr 0 0]), (7, .int .i64), (8, .int .i64)] [(0, .box [.int .i64, .int .i64, .int .i64, .str, .str])]
def LP_slices_IndexFunc__Card_Q_ConfirmedBy_1_L2 (g : C_slices_IndexFunc__Card_Q_ConfirmedBy_1) (n : Nat) : LPT A := fun ps => match ps with | [.d (.sl 66 p1), .d (.int .i64 p2), .d (.int .i64 p3), .d (.int .i64 p4), .d (.int .i64 p5), .d (.int .i64 p6), .d (.str p7), .d (.str p8)] => fun K => slices_IndexFunc__Card_Q_ConfirmedBy_1_L2 g n p1 p2 p3 ⟨p4, p5, p6, p7, p8⟩ (fun z0 z1 => K .ret (mkSt 19 1 [(1, .fn 119 [.ptr 0 0]), (4, .d (.int .i64 z0))] [(0, some (.box [.d (.int .i64 z1.f_At), .d (.int .i64 z1.f_Kind), .d (.int .i64 z1.f_Mode), .d (.str z1.f_Call), .d (.str z1.f_Band)]))])) (fun z0 => K (.exit 0) (mkSt 19 1 [(1, .fn 119 [.ptr 0 0])] [(0, some (.box [.d (.int .i64 z0.f_At), .d (.int .i64 z0.f_Kind), .d (.int .i64 z0.f_Mode), .d (.str z0.f_Call), .d (.str z0.f_Band)]))])) | _ => fun _ => none
noncomputable def code_182 : Code := (Tryz.f182.body).getD .skip
noncomputable def E_slices_IndexFunc__Card_Q_ConfirmedBy_1 (g : C_slices_IndexFunc__Card_Q_ConfirmedBy_1) : Env A := mkE [(119, SS_Q_ConfirmedBy_1 g.Q_ConfirmedBy_1)] [] [(2, ⟨[0, 1, 7, 8], [], [0], []⟩)] [(2, ⟨[1, 4], [], [0], []⟩)] [(2, pieceOf sh_slices_IndexFunc__Card_Q_ConfirmedBy_1_L2 (LP_slices_IndexFunc__Card_Q_ConfirmedBy_1_L2 g g.N))] [] [] [] [] [1]
theorem ct_slices_IndexFunc__Card_Q_ConfirmedBy_1 [Fuel] : NatTab (E_slices_IndexFunc__Card_Q_ConfirmedBy_1 I_slices_IndexFunc__Card_Q_ConfirmedBy_1).C := ct_of (P := Tryz.prog) (T := T) (.cons ok_Q_ConfirmedBy_1 .nil) (by kernel_rfl)
noncomputable def cb_slices_IndexFunc__Card_Q_ConfirmedBy_1_L2 : Code := sub [1, 0, 1, 0, 0] code_182
theorem s_slices_IndexFunc__Card_Q_ConfirmedBy_1_L2 (g : C_slices_IndexFunc__Card_Q_ConfirmedBy_1) (n : Nat) : StepOk (E_slices_IndexFunc__Card_Q_ConfirmedBy_1 g) g.N cb_slices_IndexFunc__Card_Q_ConfirmedBy_1_L2 sh_slices_IndexFunc__Card_Q_ConfirmedBy_1_L2 (LP_slices_IndexFunc__Card_Q_ConfirmedBy_1_L2 g) n := by intro ps; unfold LP_slices_IndexFunc__Card_Q_ConfirmedBy_1_L2; split; exact .inr fun R K => (by kernel_rfl); exact .inl fun R K => rfl
theorem lf_slices_IndexFunc__Card_Q_ConfirmedBy_1_L2 [Fuel] : LoopFine (E_slices_IndexFunc__Card_Q_ConfirmedBy_1 I_slices_IndexFunc__Card_Q_ConfirmedBy_1) NN cb_slices_IndexFunc__Card_Q_ConfirmedBy_1_L2 := fine_loop sh_slices_IndexFunc__Card_Q_ConfirmedBy_1_L2 (LP_slices_IndexFunc__Card_Q_ConfirmedBy_1_L2 I_slices_IndexFunc__Card_Q_ConfirmedBy_1) (by kernel_rfl) ct_slices_IndexFunc__Card_Q_ConfirmedBy_1 (cuts0 (fun _ => rfl) (by kernel_rfl)) (fun ps R K => by unfold LP_slices_IndexFunc__Card_Q_ConfirmedBy_1_L2; split <;> (try unfold slices_IndexFunc__Card_Q_ConfirmedBy_1_L2) <;> rfl) (s_slices_IndexFunc__Card_Q_ConfirmedBy_1_L2 I_slices_IndexFunc__Card_Q_ConfirmedBy_1)
theorem sm_slices_IndexFunc__Card_Q_ConfirmedBy_1 (g : C_slices_IndexFunc__Card_Q_ConfirmedBy_1) : Same (SS_slices_IndexFunc__Card_Q_ConfirmedBy_1 (@slices_IndexFunc__Card_Q_ConfirmedBy_1_ g)) (abody (E_slices_IndexFunc__Card_Q_ConfirmedBy_1 g) Tryz.f182 code_182 1 [0] [.asis] g.N) := by intro args; unfold SS_slices_IndexFunc__Card_Q_ConfirmedBy_1; split; exact .inr fun R k => (by kernel_rfl); exact .inl fun R k => rfl
theorem ok_slices_IndexFunc__Card_Q_ConfirmedBy_1 [Fuel] : Ok 182 (SS_slices_IndexFunc__Card_Q_ConfirmedBy_1 (@slices_IndexFunc__Card_Q_ConfirmedBy_1 _)) := okF_of std (.cons ok_Q_ConfirmedBy_1 .nil) ⟨rfl, rfl, by kernel_rfl, rfl, rfl⟩ (sm_slices_IndexFunc__Card_Q_ConfirmedBy_1 I_slices_IndexFunc__Card_Q_ConfirmedBy_1) (cutsL (fun _ => rfl) (.cons lf_slices_IndexFunc__Card_Q_ConfirmedBy_1_L2 .nil) (by kernel_rfl)) Tryz.func182 (by kernel_rfl) (by kernel_rfl)
abbrev T_slices_ContainsFunc__Card_Q_ConfirmedBy_1 : Type 1 := List G_Card → G_Card → {R : Type} → (Bool → G_Card → Option R) → Option R
structure C_slices_ContainsFunc__Card_Q_ConfirmedBy_1 where
  N : Nat
  slices_IndexFunc__Card_Q_ConfirmedBy_1 : T_slices_IndexFunc__Card_Q_ConfirmedBy_1
def slices_ContainsFunc__Card_Q_ConfirmedBy_1_ (g : C_slices_ContainsFunc__Card_Q_ConfirmedBy_1) (a1 : List G_Card) (a2 : G_Card) {R : Type} (k0 : Bool → G_Card → Option R) : Option R :=
  (g.slices_IndexFunc__Card_Q_ConfirmedBy_1 a1 a2 (fun r3 r4 => k0 (decide (r3 ≥ 0)) r4))
noncomputable def I_slices_ContainsFunc__Card_Q_ConfirmedBy_1 [Fuel] : C_slices_ContainsFunc__Card_Q_ConfirmedBy_1 := ⟨NN, @slices_IndexFunc__Card_Q_ConfirmedBy_1 _⟩
noncomputable def slices_ContainsFunc__Card_Q_ConfirmedBy_1 [Fuel] : T_slices_ContainsFunc__Card_Q_ConfirmedBy_1 := @slices_ContainsFunc__Card_Q_ConfirmedBy_1_ I_slices_ContainsFunc__Card_Q_ConfirmedBy_1
def SS_slices_ContainsFunc__Card_Q_ConfirmedBy_1 (g : T_slices_ContainsFunc__Card_Q_ConfirmedBy_1) : Spec A := fun args => match args with | [.d (.sl 66 a1), .fn 119 [.box [.d (.int .i64 a2), .d (.int .i64 a3), .d (.int .i64 a4), .d (.str a5), .d (.str a6)]]] => fun k => g a1 ⟨a2, a3, a4, a5, a6⟩ (fun z0 z1 => k (.d (.bool z0)) [.undef, .fn 119 [.box [.d (.int .i64 z1.f_At), .d (.int .i64 z1.f_Kind), .d (.int .i64 z1.f_Mode), .d (.str z1.f_Call), .d (.str z1.f_Band)]]]) | _ => fun _ => none
noncomputable def code_118 : Code := (Tryz.f118.body).getD .skip
noncomputable def E_slices_ContainsFunc__Card_Q_ConfirmedBy_1 (g : C_slices_ContainsFunc__Card_Q_ConfirmedBy_1) : Env A := mkE [(182, SS_slices_IndexFunc__Card_Q_ConfirmedBy_1 g.slices_IndexFunc__Card_Q_ConfirmedBy_1)] [] [] [] [] [] [] [] [(182, 0)] [1]
theorem sm_slices_ContainsFunc__Card_Q_ConfirmedBy_1 (g : C_slices_ContainsFunc__Card_Q_ConfirmedBy_1) : Same (SS_slices_ContainsFunc__Card_Q_ConfirmedBy_1 (@slices_ContainsFunc__Card_Q_ConfirmedBy_1_ g)) (abody (E_slices_ContainsFunc__Card_Q_ConfirmedBy_1 g) Tryz.f118 code_118 1 [0] [.asis] g.N) := by intro args; unfold SS_slices_ContainsFunc__Card_Q_ConfirmedBy_1; split; exact .inr fun R k => (by kernel_rfl); exact .inl fun R k => rfl
theorem ok_slices_ContainsFunc__Card_Q_ConfirmedBy_1 [Fuel] : Ok 118 (SS_slices_ContainsFunc__Card_Q_ConfirmedBy_1 (@slices_ContainsFunc__Card_Q_ConfirmedBy_1 _)) := okF_of std (.cons ok_slices_IndexFunc__Card_Q_ConfirmedBy_1 .nil) ⟨rfl, rfl, by kernel_rfl, rfl, rfl⟩ (sm_slices_ContainsFunc__Card_Q_ConfirmedBy_1 I_slices_ContainsFunc__Card_Q_ConfirmedBy_1) (cuts0 (fun _ => rfl) (by kernel_rfl)) Tryz.func118 (by kernel_rfl) (by kernel_rfl)
abbrev T_Q_ConfirmedBy : Type 1 := List G_Card → Int → {R : Type} → (List G_Card → Option R) → Option R
structure C_Q_ConfirmedBy where
  N : Nat
  slices_ContainsFunc__Card_Q_ConfirmedBy_1 : T_slices_ContainsFunc__Card_Q_ConfirmedBy_1
def Q_ConfirmedBy_L3 (g : C_Q_ConfirmedBy) : Nat → Int → List G_Card → Int → Int → List G_Card → {R : Type} → (List G_Card → Option R) → Option R
  | 0, _, _, _, _, _, _, _ => none
  | n + 1, v3, v4, v5, v6, v7, _, e0 => (bif (decide (v6 < v5)) then (get_ v4 v6 fun x11 => (bif (x11.f_Kind == 2) then (bif (decide (x11.f_At ≤ v3)) then (g.slices_ContainsFunc__Card_Q_ConfirmedBy_1 v7 x11 (fun r12 r13 => (bif (!r12) then (bif (decide ((v7.length + [r13].length) * 56 ≤ roomBytes')) then Q_ConfirmedBy_L3 g n v3 v4 v5 (w64 (v6 + 1)) (v7 ++ [r13]) e0 else none) else Q_ConfirmedBy_L3 g n v3 v4 v5 (w64 (v6 + 1)) v7 e0))) else Q_ConfirmedBy_L3 g n v3 v4 v5 (w64 (v6 + 1)) v7 e0) else Q_ConfirmedBy_L3 g n v3 v4 v5 (w64 (v6 + 1)) v7 e0)) else e0 v7)
def Q_ConfirmedBy_ (g : C_Q_ConfirmedBy) (a1 : List G_Card) (a2 : Int) {R : Type} (k0 : List G_Card → Option R) : Option R :=
  (Q_ConfirmedBy_L3 g g.N a2 a1 (a1.length : Int) 0 [] (fun e14 => k0 e14))
noncomputable def I_Q_ConfirmedBy [Fuel] : C_Q_ConfirmedBy := ⟨NN, @slices_ContainsFunc__Card_Q_ConfirmedBy_1 _⟩
noncomputable def Q_ConfirmedBy [Fuel] : T_Q_ConfirmedBy := @Q_ConfirmedBy_ I_Q_ConfirmedBy
def SS_Q_ConfirmedBy (g : T_Q_ConfirmedBy) : Spec A := fun args => match args with | [.d (.sl 66 a1), .d (.int .i64 a2)] => fun k => g a1 a2 (fun z0 => k (.arr 66 z0) [.undef, .undef]) | _ => fun _ => none
def sh_Q_ConfirmedBy_L3 : SSt := mkSh 35 4 [(1, .int .i64), (5, .own 66 0), (8, .sl 66), (9, .int .i64), (10, .int .i64)] [(0, .row 66)]
def LP_Q_ConfirmedBy_L3 (g : C_Q_ConfirmedBy) (n : Nat) : LPT A := fun ps => match ps with | [.d (.int .i64 p1), .d (.sl 66 p2), .d (.int .i64 p3), .d (.int .i64 p4), .d (.sl 66 p5)] => fun K => Q_ConfirmedBy_L3 g n p1 p2 p3 p4 p5 (fun z0 => K (.exit 0) (mkSt 35 4 [(5, .own 66 0)] [(0, some (.row 66 z0))])) | _ => fun _ => none
noncomputable def code_33 : Code := (Tryz.f33.body).getD .skip
noncomputable def E_Q_ConfirmedBy (g : C_Q_ConfirmedBy) : Env A := mkE [(118, SS_slices_ContainsFunc__Card_Q_ConfirmedBy_1 g.slices_ContainsFunc__Card_Q_ConfirmedBy_1)] [(7, [1]), (31, [2]), (32, [3])] [(3, ⟨[1, 5, 8, 9, 10], [(5, 66, 0)], [], []⟩)] [(3, ⟨[5], [], [0], []⟩)] [(3, pieceOf sh_Q_ConfirmedBy_L3 (LP_Q_ConfirmedBy_L3 g g.N))] [] [] [] [] []
theorem ct_Q_ConfirmedBy [Fuel] : NatTab (E_Q_ConfirmedBy I_Q_ConfirmedBy).C := ct_of (P := Tryz.prog) (T := T) (.cons ok_slices_ContainsFunc__Card_Q_ConfirmedBy_1 .nil) (by kernel_rfl)
noncomputable def cb_Q_ConfirmedBy_L3 : Code := sub [1, 1, 0, 1, 0, 0] code_33
theorem s_Q_ConfirmedBy_L3 (g : C_Q_ConfirmedBy) (n : Nat) : StepOk (E_Q_ConfirmedBy g) g.N cb_Q_ConfirmedBy_L3 sh_Q_ConfirmedBy_L3 (LP_Q_ConfirmedBy_L3 g) n := by intro ps; unfold LP_Q_ConfirmedBy_L3; split; exact .inr fun R K => (by kernel_rfl); exact .inl fun R K => rfl
theorem lf_Q_ConfirmedBy_L3 [Fuel] : LoopFine (E_Q_ConfirmedBy I_Q_ConfirmedBy) NN cb_Q_ConfirmedBy_L3 := fine_loop sh_Q_ConfirmedBy_L3 (LP_Q_ConfirmedBy_L3 I_Q_ConfirmedBy) (by kernel_rfl) ct_Q_ConfirmedBy (cuts0 (fun _ => rfl) (by kernel_rfl)) (fun ps R K => by unfold LP_Q_ConfirmedBy_L3; split <;> (try unfold Q_ConfirmedBy_L3) <;> rfl) (s_Q_ConfirmedBy_L3 I_Q_ConfirmedBy)
theorem sm_Q_ConfirmedBy (g : C_Q_ConfirmedBy) : Same (SS_Q_ConfirmedBy (@Q_ConfirmedBy_ g)) (abody (E_Q_ConfirmedBy g) Tryz.f33 code_33 4 [] [.arr 66] g.N) := by intro args; unfold SS_Q_ConfirmedBy; split; exact .inr fun R k => (by kernel_rfl); exact .inl fun R k => rfl
theorem ok_Q_ConfirmedBy [Fuel] : Ok 33 (SS_Q_ConfirmedBy (@Q_ConfirmedBy _)) := okF_of std (.cons ok_slices_ContainsFunc__Card_Q_ConfirmedBy_1 .nil) ⟨rfl, rfl, by kernel_rfl, rfl, rfl⟩ (sm_Q_ConfirmedBy I_Q_ConfirmedBy) (cutsL (fun _ => rfl) (.cons lf_Q_ConfirmedBy_L3 .nil) (by kernel_rfl)) Tryz.func33 (by kernel_rfl) (by kernel_rfl)
abbrev T_Q_OwedBy_1 : Type 1 := G_Card → Int → G_Card → {R : Type} → (Bool → Int → G_Card → Option R) → Option R
structure C_Q_OwedBy_1 where
  N : Nat
  Q_with : T_Q_with
def Q_OwedBy_1_ (g : C_Q_OwedBy_1) (a1 : G_Card) (a2 : Int) (a3 : G_Card) {R : Type} (k0 : Bool → Int → G_Card → Option R) : Option R :=
  (bif (a1.f_Kind == 3) then (bif (decide (a1.f_At ≤ a2)) then (g.Q_with a1 a3 (fun r4 => k0 r4 a2 a3)) else k0 false a2 a3) else k0 false a2 a3)
noncomputable def I_Q_OwedBy_1 [Fuel] : C_Q_OwedBy_1 := ⟨NN, @Q_with _⟩
noncomputable def Q_OwedBy_1 [Fuel] : T_Q_OwedBy_1 := @Q_OwedBy_1_ I_Q_OwedBy_1
def SS_Q_OwedBy_1 (g : T_Q_OwedBy_1) : Spec A := fun args => match args with | [.agg [.d (.int .i64 a1), .d (.int .i64 a2), .d (.int .i64 a3), .d (.str a4), .d (.str a5)], .box [.d (.int .i64 a6)], .box [.d (.int .i64 a7), .d (.int .i64 a8), .d (.int .i64 a9), .d (.str a10), .d (.str a11)]] => fun k => g ⟨a1, a2, a3, a4, a5⟩ a6 ⟨a7, a8, a9, a10, a11⟩ (fun z0 z1 z2 => k (.d (.bool z0)) [.undef, .box [.d (.int .i64 z1)], .box [.d (.int .i64 z2.f_At), .d (.int .i64 z2.f_Kind), .d (.int .i64 z2.f_Mode), .d (.str z2.f_Call), .d (.str z2.f_Band)]]) | _ => fun _ => none
noncomputable def code_121 : Code := (Tryz.f121.body).getD .skip
noncomputable def E_Q_OwedBy_1 (g : C_Q_OwedBy_1) : Env A := mkE [(120, SS_Q_with g.Q_with)] [(3, [2])] [] [] [] [] [] [] [] [1, 2]
theorem sm_Q_OwedBy_1 (g : C_Q_OwedBy_1) : Same (SS_Q_OwedBy_1 (@Q_OwedBy_1_ g)) (abody (E_Q_OwedBy_1 g) Tryz.f121 code_121 3 [0, 1] [.asis] g.N) := by intro args; unfold SS_Q_OwedBy_1; split; exact .inr fun R k => (by kernel_rfl); exact .inl fun R k => rfl
theorem ok_Q_OwedBy_1 [Fuel] : Ok 121 (SS_Q_OwedBy_1 (@Q_OwedBy_1 _)) := okF_of std (.cons ok_Q_with .nil) ⟨rfl, rfl, by kernel_rfl, rfl, rfl⟩ (sm_Q_OwedBy_1 I_Q_OwedBy_1) (cuts0 (fun _ => rfl) (by kernel_rfl)) Tryz.func121 (by kernel_rfl) (by kernel_rfl)
end Go.Am
