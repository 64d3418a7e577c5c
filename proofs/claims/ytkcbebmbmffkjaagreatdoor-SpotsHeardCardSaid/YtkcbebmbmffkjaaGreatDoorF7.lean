/- The functions of the program as Lean functions, each shown to be what the code computes, part 7. No condition: lemmas for the claim. -/
import Derived.Test.YtkcbebmbmffkjaaGreatDoorF0
import Derived.Test.YtkcbebmbmffkjaaGreatDoorFSh
import Derived.Test.YtkcbebmbmffkjaaGreatDoorF2
import Derived.Test.YtkcbebmbmffkjaaGreatDoorF3
import Derived.Test.YtkcbebmbmffkjaaGreatDoorF4
import Derived.Test.YtkcbebmbmffkjaaGreatDoorF6
set_option linter.unusedVariables false
set_option maxRecDepth 100000
namespace Go.Am
open Go Go.Proofs
abbrev T_z89z : Type 1 := List UInt8 → {R : Type} → (G_Parts → Option R) → Option R
structure C_z89z where
 N : Nat
 R_baseAt : T_R_baseAt
def z89z_ (g : C_z89z) (a1 : List UInt8) {R : Type} (k0 : G_Parts → Option R) : Option R :=
 (g.R_baseAt a1 (fun r2 => (bif (decide (0 ≤ (w64 (r2 + 1))) && decide ((w64 (r2 + 1)) ≤ (a1.length : Int))) then (bif (decide (0 ≤ (w64 (r2 + 1))) && decide ((w64 (r2 + 1)) ≤ (a1.length : Int))) then k0 (⟨a1, (a1.take ((w64 (r2 + 1)) : Int).toNat), (a1.drop ((w64 (r2 + 1)) : Int).toNat), 0, []⟩ : G_Parts) else none) else none)))
noncomputable def I_z89z [Fuel] : C_z89z := ⟨NN, @R_baseAt _⟩
noncomputable def z89z [Fuel] : T_z89z := @z89z_ I_z89z
def SS_z89z (g : T_z89z) : Spec A := fun args => match args with | [.d (.str a1)] => fun k => g a1 (fun z0 => k (.agg [.d (.str z0.f_Base), .d (.str z0.f_Prefix), .d (.str z0.f_Suffix), .d (.int .i64 z0.f_Kind), .d (.str z0.f_Added)]) [.undef]) | _ => fun _ => none
noncomputable def code_144 : Code := (Tryz.f144.body).getD .skip
noncomputable def E_z89z (g : C_z89z) : Env A := mkE [(145, SS_R_baseAt g.R_baseAt)] [(2, [0])] [] [] [] [] [] [] [] []
theorem sm_z89z (g : C_z89z) : Same (SS_z89z (@z89z_ g)) (abody (E_z89z g) Tryz.f144 code_144 1 [] [.asis] g.N) := by intro args; unfold SS_z89z; split; exact .inr fun R k => (by kernel_rfl); exact .inl fun R k => rfl
theorem ok_z89z [Fuel] : Ok 144 (SS_z89z (@z89z _)) := okF_of std (.cons ok_R_baseAt .nil) ⟨rfl, rfl, by kernel_rfl, rfl, rfl, rfl⟩ (sm_z89z I_z89z) (cuts0 (fun _ => rfl) (by kernel_rfl)) Tryz.func144 (by kernel_rfl) (by kernel_rfl)
abbrev T_R_begin : Type 1 := List UInt8 → {R : Type} → (Bool → Option R) → Option R
structure C_R_begin where
 N : Nat
 R_plain : T_R_plain
def R_begin_ (g : C_R_begin) (a1 : List UInt8) {R : Type} (k0 : Bool → Option R) : Option R :=
 (g.R_plain a1 1 4 (fun r2 => k0 r2))
noncomputable def I_R_begin [Fuel] : C_R_begin := ⟨NN, @R_plain _⟩
noncomputable def R_begin [Fuel] : T_R_begin := @R_begin_ I_R_begin
def SS_R_begin (g : T_R_begin) : Spec A := fun args => match args with | [.d (.str a1)] => fun k => g a1 (fun z0 => k (.d (.bool z0)) [.undef]) | _ => fun _ => none
noncomputable def code_146 : Code := (Tryz.f146.body).getD .skip
noncomputable def E_R_begin (g : C_R_begin) : Env A := mkE [(181, SS_R_plain g.R_plain)] [] [] [] [] [] [] [] [] []
theorem sm_R_begin (g : C_R_begin) : Same (SS_R_begin (@R_begin_ g)) (abody (E_R_begin g) Tryz.f146 code_146 0 [] [.asis] g.N) := by intro args; unfold SS_R_begin; split; exact .inr fun R k => (by kernel_rfl); exact .inl fun R k => rfl
theorem ok_R_begin [Fuel] : Ok 146 (SS_R_begin (@R_begin _)) := okF_of std (.cons ok_R_plain .nil) ⟨rfl, rfl, by kernel_rfl, rfl, rfl, rfl⟩ (sm_R_begin I_R_begin) (cuts0 (fun _ => rfl) (by kernel_rfl)) Tryz.func146 (by kernel_rfl) (by kernel_rfl)
abbrev T_strings_Index : Type 1 := List UInt8 → List UInt8 → {R : Type} → (Int → Option R) → Option R
structure C_strings_Index where
 N : Nat
 stringslite_Index : T_stringslite_Index
def strings_Index_ (g : C_strings_Index) (a1 a2 : List UInt8) {R : Type} (k0 : Int → Option R) : Option R :=
 (g.stringslite_Index a1 a2 (fun r3 => k0 r3))
noncomputable def I_strings_Index [Fuel] : C_strings_Index := ⟨NN, @stringslite_Index _⟩
noncomputable def strings_Index [Fuel] : T_strings_Index := @strings_Index_ I_strings_Index
def SS_strings_Index (g : T_strings_Index) : Spec A := fun args => match args with | [.d (.str a1), .d (.str a2)] => fun k => g a1 a2 (fun z0 => k (.d (.int .i64 z0)) [.undef, .undef]) | _ => fun _ => none
noncomputable def code_184 : Code := (Tryz.f184.body).getD .skip
noncomputable def E_strings_Index (g : C_strings_Index) : Env A := mkE [(208, SS_stringslite_Index g.stringslite_Index)] [] [] [] [] [] [] [] [] []
theorem sm_strings_Index (g : C_strings_Index) : Same (SS_strings_Index (@strings_Index_ g)) (abody (E_strings_Index g) Tryz.f184 code_184 0 [] [.asis] g.N) := by intro args; unfold SS_strings_Index; split; exact .inr fun R k => (by kernel_rfl); exact .inl fun R k => rfl
theorem ok_strings_Index [Fuel] : Ok 184 (SS_strings_Index (@strings_Index _)) := okF_of std (.cons ok_stringslite_Index .nil) ⟨rfl, rfl, by kernel_rfl, rfl, rfl, rfl⟩ (sm_strings_Index I_strings_Index) (cuts0 (fun _ => rfl) (by kernel_rfl)) Tryz.func184 (by kernel_rfl) (by kernel_rfl)
abbrev T_strings_Contains : Type 1 := List UInt8 → List UInt8 → {R : Type} → (Bool → Option R) → Option R
structure C_strings_Contains where
 N : Nat
 strings_Index : T_strings_Index
def strings_Contains_ (g : C_strings_Contains) (a1 a2 : List UInt8) {R : Type} (k0 : Bool → Option R) : Option R :=
 (g.strings_Index a1 a2 (fun r3 => k0 (decide (r3 ≥ 0))))
noncomputable def I_strings_Contains [Fuel] : C_strings_Contains := ⟨NN, @strings_Index _⟩
noncomputable def strings_Contains [Fuel] : T_strings_Contains := @strings_Contains_ I_strings_Contains
def SS_strings_Contains (g : T_strings_Contains) : Spec A := fun args => match args with | [.d (.str a1), .d (.str a2)] => fun k => g a1 a2 (fun z0 => k (.d (.bool z0)) [.undef, .undef]) | _ => fun _ => none
noncomputable def code_147 : Code := (Tryz.f147.body).getD .skip
noncomputable def E_strings_Contains (g : C_strings_Contains) : Env A := mkE [(184, SS_strings_Index g.strings_Index)] [] [] [] [] [] [] [] [] []
theorem sm_strings_Contains (g : C_strings_Contains) : Same (SS_strings_Contains (@strings_Contains_ g)) (abody (E_strings_Contains g) Tryz.f147 code_147 0 [] [.asis] g.N) := by intro args; unfold SS_strings_Contains; split; exact .inr fun R k => (by kernel_rfl); exact .inl fun R k => rfl
theorem ok_strings_Contains [Fuel] : Ok 147 (SS_strings_Contains (@strings_Contains _)) := okF_of std (.cons ok_strings_Index .nil) ⟨rfl, rfl, by kernel_rfl, rfl, rfl, rfl⟩ (sm_strings_Contains I_strings_Contains) (cuts0 (fun _ => rfl) (by kernel_rfl)) Tryz.func147 (by kernel_rfl) (by kernel_rfl)
abbrev T_R_PartsOf : Type 1 := List UInt8 → {R : Type} → (G_Parts → Bool → Option R) → Option R
structure C_R_PartsOf where
 N : Nat
 z87z : T_z87z
 z89z : T_z89z
 R_baseAt : T_R_baseAt
 R_begin : T_R_begin
 strings_Contains : T_strings_Contains
def R_PartsOf_ (g : C_R_PartsOf) (a1 : List UInt8) {R : Type} (k0 : G_Parts → Bool → Option R) : Option R :=
 (g.z87z a1 [47] (fun r2 r3 r4 => (bif (decide ((a1.length : Int) > 14)) then k0 (⟨[], [], [], 0, []⟩ : G_Parts) false else (bif (!r4) then (g.R_baseAt r2 (fun r5 => (bif (decide (r5 < 0)) then k0 (⟨[], [], [], 0, []⟩ : G_Parts) false else (g.z89z r2 (fun r6 => k0 r6 true))))) else (g.R_baseAt r3 (fun r7 => (bif (decide (r7 ≥ 0)) then (g.R_begin r2 (fun r8 => (bif r8 then (g.z89z r3 (fun r9 => k0 (⟨r9.f_Base, r9.f_Prefix, r9.f_Suffix, 1, r2⟩ : G_Parts) true)) else (g.R_baseAt r2 (fun r10 => (bif (decide (r10 < 0)) then k0 (⟨[], [], [], 0, []⟩ : G_Parts) false else (g.z89z r2 (fun r11 => (bif (r3 == [112]) then k0 (⟨r11.f_Base, r11.f_Prefix, r11.f_Suffix, 3, r11.f_Added⟩ : G_Parts) true else (bif (r3 == [109]) then k0 (⟨r11.f_Base, r11.f_Prefix, r11.f_Suffix, 4, r11.f_Added⟩ : G_Parts) true else (bif (r3 == [109, 109]) then k0 (⟨r11.f_Base, r11.f_Prefix, r11.f_Suffix, 5, r11.f_Added⟩ : G_Parts) true else (bif (r3 == [97, 109]) then k0 (⟨r11.f_Base, r11.f_Prefix, r11.f_Suffix, 6, r11.f_Added⟩ : G_Parts) true else (bif ((r3.length : Int) == 1) then (g.strings_Contains [48, 49, 50, 51, 52, 53, 54, 55, 56, 57] r3 (fun r12 => (bif r12 then k0 (⟨r11.f_Base, r11.f_Prefix, r11.f_Suffix, 2, r3⟩ : G_Parts) true else (g.R_begin r3 (fun r13 => (bif r13 then k0 (⟨r11.f_Base, r11.f_Prefix, r11.f_Suffix, 1, r3⟩ : G_Parts) true else k0 (⟨[], [], [], 0, []⟩ : G_Parts) false)))))) else (g.R_begin r3 (fun r14 => (bif r14 then k0 (⟨r11.f_Base, r11.f_Prefix, r11.f_Suffix, 1, r3⟩ : G_Parts) true else k0 (⟨[], [], [], 0, []⟩ : G_Parts) false)))))))))))))))) else (g.R_baseAt r2 (fun r15 => (bif (decide (r15 < 0)) then k0 (⟨[], [], [], 0, []⟩ : G_Parts) false else (g.z89z r2 (fun r16 => (bif (r3 == [112]) then k0 (⟨r16.f_Base, r16.f_Prefix, r16.f_Suffix, 3, r16.f_Added⟩ : G_Parts) true else (bif (r3 == [109]) then k0 (⟨r16.f_Base, r16.f_Prefix, r16.f_Suffix, 4, r16.f_Added⟩ : G_Parts) true else (bif (r3 == [109, 109]) then k0 (⟨r16.f_Base, r16.f_Prefix, r16.f_Suffix, 5, r16.f_Added⟩ : G_Parts) true else (bif (r3 == [97, 109]) then k0 (⟨r16.f_Base, r16.f_Prefix, r16.f_Suffix, 6, r16.f_Added⟩ : G_Parts) true else (bif ((r3.length : Int) == 1) then (g.strings_Contains [48, 49, 50, 51, 52, 53, 54, 55, 56, 57] r3 (fun r17 => (bif r17 then k0 (⟨r16.f_Base, r16.f_Prefix, r16.f_Suffix, 2, r3⟩ : G_Parts) true else (g.R_begin r3 (fun r18 => (bif r18 then k0 (⟨r16.f_Base, r16.f_Prefix, r16.f_Suffix, 1, r3⟩ : G_Parts) true else k0 (⟨[], [], [], 0, []⟩ : G_Parts) false)))))) else (g.R_begin r3 (fun r19 => (bif r19 then k0 (⟨r16.f_Base, r16.f_Prefix, r16.f_Suffix, 1, r3⟩ : G_Parts) true else k0 (⟨[], [], [], 0, []⟩ : G_Parts) false))))))))))))))))))))
noncomputable def I_R_PartsOf [Fuel] : C_R_PartsOf := ⟨NN, @z87z _, @z89z _, @R_baseAt _, @R_begin _, @strings_Contains _⟩
noncomputable def R_PartsOf [Fuel] : T_R_PartsOf := @R_PartsOf_ I_R_PartsOf
def SS_R_PartsOf (g : T_R_PartsOf) : Spec A := fun args => match args with | [.d (.str a1)] => fun k => g a1 (fun z0 z1 => k (.tup [.agg [.d (.str z0.f_Base), .d (.str z0.f_Prefix), .d (.str z0.f_Suffix), .d (.int .i64 z0.f_Kind), .d (.str z0.f_Added)], .d (.bool z1)]) [.undef]) | _ => fun _ => none
noncomputable def code_109 : Code := (Tryz.f109.body).getD .skip
noncomputable def E_R_PartsOf (g : C_R_PartsOf) : Env A := mkE [(138, SS_z87z g.z87z), (144, SS_z89z g.z89z), (145, SS_R_baseAt g.R_baseAt), (146, SS_R_begin g.R_begin), (147, SS_strings_Contains g.strings_Contains)] [(2, [0]), (8, [1]), (9, [2])] [] [] [] [] [] [] [] []
theorem sm_R_PartsOf (g : C_R_PartsOf) : Same (SS_R_PartsOf (@R_PartsOf_ g)) (abody (E_R_PartsOf g) Tryz.f109 code_109 3 [] [.asis, .asis] g.N) := by intro args; unfold SS_R_PartsOf; split; exact .inr fun R k => (by kernel_rfl); exact .inl fun R k => rfl
theorem ok_R_PartsOf [Fuel] : Ok 109 (SS_R_PartsOf (@R_PartsOf _)) := okF_of std (.cons ok_z87z (.cons ok_z89z (.cons ok_R_baseAt (.cons ok_R_begin (.cons ok_strings_Contains .nil))))) ⟨rfl, rfl, by kernel_rfl, rfl, rfl, rfl⟩ (sm_R_PartsOf I_R_PartsOf) (cuts0 (fun _ => rfl) (by kernel_rfl)) Tryz.func109 (by kernel_rfl) (by kernel_rfl)
abbrev T_Q_Call : Type 1 := List UInt8 → {R : Type} → (Bool → Option R) → Option R
structure C_Q_Call where
 N : Nat
 R_PartsOf : T_R_PartsOf
def Q_Call_ (g : C_Q_Call) (a1 : List UInt8) {R : Type} (k0 : Bool → Option R) : Option R :=
 (g.R_PartsOf a1 (fun r2 r3 => k0 r3))
noncomputable def I_Q_Call [Fuel] : C_Q_Call := ⟨NN, @R_PartsOf _⟩
noncomputable def Q_Call [Fuel] : T_Q_Call := @Q_Call_ I_Q_Call
def SS_Q_Call (g : T_Q_Call) : Spec A := fun args => match args with | [.d (.str a1)] => fun k => g a1 (fun z0 => k (.d (.bool z0)) [.undef]) | _ => fun _ => none
noncomputable def code_60 : Code := (Tryz.f60.body).getD .skip
noncomputable def E_Q_Call (g : C_Q_Call) : Env A := mkE [(109, SS_R_PartsOf g.R_PartsOf)] [(3, [0])] [] [] [] [] [] [] [] []
theorem sm_Q_Call (g : C_Q_Call) : Same (SS_Q_Call (@Q_Call_ g)) (abody (E_Q_Call g) Tryz.f60 code_60 1 [] [.asis] g.N) := by intro args; unfold SS_Q_Call; split; exact .inr fun R k => (by kernel_rfl); exact .inl fun R k => rfl
theorem ok_Q_Call [Fuel] : Ok 60 (SS_Q_Call (@Q_Call _)) := okF_of std (.cons ok_R_PartsOf .nil) ⟨rfl, rfl, by kernel_rfl, rfl, rfl, rfl⟩ (sm_Q_Call I_Q_Call) (cuts0 (fun _ => rfl) (by kernel_rfl)) Tryz.func60 (by kernel_rfl) (by kernel_rfl)
abbrev T_z51z : Type 1 := List G_Spot → {R : Type} → (Int → Option R) → Option R
structure C_z51z where
 N : Nat
 z10z : T_z10z
 Q_in : T_Q_in
 Q_Moment : T_Q_Moment
 Q_Call : T_Q_Call
def z51z_L4 (g : C_z51z) : Nat → List G_Spot → List G_Spot → Int → Int → {R : Type} → (Int → Option R) → Option R → Option R
 | 0, _, _, _, _, _, _, _ => none
 | n + 1, v2, v3, v4, v5, _, e0, e1 => (bif (decide (v5 < v4)) then (get_ v3 v5 fun x13 => (g.Q_Moment x13.f_At (fun r14 => (bif (!r14) then e0 1 else (g.Q_in x13.f_Hertz 0 30000000000 (fun r15 => (bif (!r15) then e0 1 else (g.Q_Call x13.f_Call (fun r16 => (bif (!r16) then e0 3 else (g.Q_Call x13.f_By (fun r17 => (bif (!r17) then e0 3 else (bif (decide (v5 > 0)) then (get_ v2 (w64 (v5 - 1)) fun x18 => (g.z10z x18 x13 (fun r19 => (bif (decide (r19 ≥ 0)) then e0 7 else z51z_L4 g n v2 v3 v4 (w64 (v5 + 1)) e0 e1)))) else z51z_L4 g n v2 v3 v4 (w64 (v5 + 1)) e0 e1)))))))))))))) else e1)
def z51z_ (g : C_z51z) (a1 : List G_Spot) {R : Type} (k0 : Int → Option R) : Option R :=
 (bif (decide ((a1.length : Int) > 2000)) then k0 2 else (z51z_L4 g g.N a1 a1 (a1.length : Int) 0 (fun e20 => k0 e20) (k0 0)))
noncomputable def I_z51z [Fuel] : C_z51z := ⟨NN, @z10z _, @Q_in _, @Q_Moment _, @Q_Call _⟩
noncomputable def z51z [Fuel] : T_z51z := @z51z_ I_z51z
def SS_z51z (g : T_z51z) : Spec A := fun args => match args with | [.d (.sl 52 a1)] => fun k => g a1 (fun z0 => k (.d (.int .i64 z0)) [.undef]) | _ => fun _ => none
def sh_z51z_L4 : SSt := mkSh 51 1 [(0, .sl 52), (8, .sl 52), (9, .int .i64), (10, .int .i64)] []
def LP_z51z_L4 (g : C_z51z) (n : Nat) : LPT A := fun ps => match ps with | [.d (.sl 52 p1), .d (.sl 52 p2), .d (.int .i64 p3), .d (.int .i64 p4)] => fun K => z51z_L4 g n p1 p2 p3 p4 (fun z0 => K .ret (mkSt 51 1 [(2, .d (.int .i64 z0))] [])) (K (.exit 0) (mkSt 51 1 [] [])) | _ => fun _ => none
noncomputable def code_15 : Code := (Tryz.f15.body).getD .skip
noncomputable def E_z51z (g : C_z51z) : Env A := mkE [(40, SS_z10z g.z10z), (57, SS_Q_in g.Q_in), (59, SS_Q_Moment g.Q_Moment), (60, SS_Q_Call g.Q_Call)] [(4, [0])] [(4, ⟨[0, 8, 9, 10], [], [], [], [], [], []⟩)] [(4, ⟨[2], [], [], [], [], [], []⟩)] [(4, pieceOf sh_z51z_L4 (LP_z51z_L4 g g.N))] [] [] [] [] []
theorem ct_z51z [Fuel] : NatTab (E_z51z I_z51z).C := ct_of (P := Tryz.prog) (T := T) (.cons ok_z10z (.cons ok_Q_in (.cons ok_Q_Moment (.cons ok_Q_Call .nil)))) (by kernel_rfl)
noncomputable def cb_z51z_L4 : Code := sub [1, 1, 0, 1, 0, 0] code_15
theorem s_z51z_L4 (g : C_z51z) (n : Nat) : StepOk (E_z51z g) g.N cb_z51z_L4 sh_z51z_L4 (LP_z51z_L4 g) n := by intro ps; unfold LP_z51z_L4; split; exact .inr fun R K => (by kernel_rfl); exact .inl fun R K => rfl
theorem lf_z51z_L4 [Fuel] : LoopFine (E_z51z I_z51z) NN cb_z51z_L4 := fine_loop sh_z51z_L4 (LP_z51z_L4 I_z51z) (by kernel_rfl) ct_z51z (cuts0 (fun _ => rfl) (by kernel_rfl)) (fun ps R K => by unfold LP_z51z_L4; split <;> (try unfold z51z_L4) <;> rfl) (s_z51z_L4 I_z51z)
theorem sm_z51z (g : C_z51z) : Same (SS_z51z (@z51z_ g)) (abody (E_z51z g) Tryz.f15 code_15 1 [] [.asis] g.N) := by intro args; unfold SS_z51z; split; exact .inr fun R k => (by kernel_rfl); exact .inl fun R k => rfl
theorem ok_z51z [Fuel] : Ok 15 (SS_z51z (@z51z _)) := okF_of std (.cons ok_z10z (.cons ok_Q_in (.cons ok_Q_Moment (.cons ok_Q_Call .nil)))) ⟨rfl, rfl, by kernel_rfl, rfl, rfl, rfl⟩ (sm_z51z I_z51z) (cutsL (fun _ => rfl) (.cons lf_z51z_L4 .nil) (by kernel_rfl)) Tryz.func15 (by kernel_rfl) (by kernel_rfl)
abbrev T_law_errs : Type 1 := List Int → {R : Type} → (Int → Option R) → Option R
def law_errs_L2 (g : Nat) : Nat → List Int → Int → Int → {R : Type} → (Int → Option R) → Option R → Option R
 | 0, _, _, _, _, _, _ => none
 | n + 1, v2, v3, v4, _, e0, e1 => (bif (decide (v4 < v3)) then (get_ v2 v4 fun x6 => (bif (x6 != 0) then e0 x6 else law_errs_L2 g n v2 v3 (w64 (v4 + 1)) e0 e1)) else e1)
def law_errs_ (g : Nat) (a1 : List Int) {R : Type} (k0 : Int → Option R) : Option R :=
 (law_errs_L2 g g a1 (a1.length : Int) 0 (fun e7 => k0 e7) (k0 0))
noncomputable def law_errs [Fuel] : T_law_errs := @law_errs_ NN
def SS_law_errs (g : T_law_errs) : Spec A := fun args => match args with | [.d (.sl 35 a1)] => fun k => g a1 (fun z0 => k (.d (.int .i64 z0)) [.undef]) | _ => fun _ => none
def sh_law_errs_L2 : SSt := mkSh 15 0 [(5, .sl 35), (6, .int .i64), (7, .int .i64)] []
def LP_law_errs_L2 (g : Nat) (n : Nat) : LPT A := fun ps => match ps with | [.d (.sl 35 p1), .d (.int .i64 p2), .d (.int .i64 p3)] => fun K => law_errs_L2 g n p1 p2 p3 (fun z0 => K .ret (mkSt 15 0 [(2, .d (.int .i64 z0))] [])) (K (.exit 0) (mkSt 15 0 [] [])) | _ => fun _ => none
noncomputable def code_13 : Code := (Tryz.f13.body).getD .skip
noncomputable def E_law_errs (g : Nat) : Env A := mkE [] [] [(2, ⟨[5, 6, 7], [], [], [], [], [], []⟩)] [(2, ⟨[2], [], [], [], [], [], []⟩)] [(2, pieceOf sh_law_errs_L2 (LP_law_errs_L2 g g))] [] [] [] [] []
theorem ct_law_errs [Fuel] : NatTab (E_law_errs NN).C := ct_of (P := Tryz.prog) (T := T) .nil (by kernel_rfl)
noncomputable def cb_law_errs_L2 : Code := sub [1, 0, 1, 0, 0] code_13
theorem s_law_errs_L2 (g : Nat) (n : Nat) : StepOk (E_law_errs g) g cb_law_errs_L2 sh_law_errs_L2 (LP_law_errs_L2 g) n := by intro ps; unfold LP_law_errs_L2; split; exact .inr fun R K => (by kernel_rfl); exact .inl fun R K => rfl
theorem lf_law_errs_L2 [Fuel] : LoopFine (E_law_errs NN) NN cb_law_errs_L2 := fine_loop sh_law_errs_L2 (LP_law_errs_L2 NN) (by kernel_rfl) ct_law_errs (cuts0 (fun _ => rfl) (by kernel_rfl)) (fun ps R K => by unfold LP_law_errs_L2; split <;> (try unfold law_errs_L2) <;> rfl) (s_law_errs_L2 NN)
theorem sm_law_errs (g : Nat) : Same (SS_law_errs (@law_errs_ g)) (abody (E_law_errs g) Tryz.f13 code_13 0 [] [.asis] g) := by intro args; unfold SS_law_errs; split; exact .inr fun R k => (by kernel_rfl); exact .inl fun R k => rfl
theorem ok_law_errs [Fuel] : Ok 13 (SS_law_errs (@law_errs _)) := okF_of std .nil ⟨rfl, rfl, by kernel_rfl, rfl, rfl, rfl⟩ (sm_law_errs NN) (cutsL (fun _ => rfl) (.cons lf_law_errs_L2 .nil) (by kernel_rfl)) Tryz.func13 (by kernel_rfl) (by kernel_rfl)
abbrev T_Q_only : Type 1 := List UInt8 → List UInt8 → {R : Type} → (Bool → Option R) → Option R
structure C_Q_only where
 N : Nat
 strings_IndexByte : T_strings_IndexByte
def Q_only_L2 (g : C_Q_only) : Nat → List UInt8 → List UInt8 → Int → Int → {R : Type} → (Bool → Option R) → Option R → Option R
 | 0, _, _, _, _, _, _, _ => none
 | n + 1, v3, v4, v5, v6, _, e0, e1 => (bif (decide (v6 < v5)) then (get_ v3 v6 fun x9 => (g.strings_IndexByte v4 (x9.toNat : Int) (fun r10 => (bif (decide (r10 < 0)) then e0 false else Q_only_L2 g n v3 v4 v5 (w64 (v6 + 1)) e0 e1)))) else e1)
def Q_only_ (g : C_Q_only) (a1 a2 : List UInt8) {R : Type} (k0 : Bool → Option R) : Option R :=
 (Q_only_L2 g g.N a1 a2 (a1.length : Int) 0 (fun e11 => k0 e11) (k0 true))
noncomputable def I_Q_only [Fuel] : C_Q_only := ⟨NN, @strings_IndexByte _⟩
noncomputable def Q_only [Fuel] : T_Q_only := @Q_only_ I_Q_only
def SS_Q_only (g : T_Q_only) : Spec A := fun args => match args with | [.d (.str a1), .d (.str a2)] => fun k => g a1 a2 (fun z0 => k (.d (.bool z0)) [.undef, .undef]) | _ => fun _ => none
def sh_Q_only_L2 : SSt := mkSh 18 0 [(0, .str), (1, .str), (7, .int .i64), (8, .int .i64)] []
def LP_Q_only_L2 (g : C_Q_only) (n : Nat) : LPT A := fun ps => match ps with | [.d (.str p1), .d (.str p2), .d (.int .i64 p3), .d (.int .i64 p4)] => fun K => Q_only_L2 g n p1 p2 p3 p4 (fun z0 => K .ret (mkSt 18 0 [(4, .d (.bool z0))] [])) (K (.exit 0) (mkSt 18 0 [] [])) | _ => fun _ => none
noncomputable def code_106 : Code := (Tryz.f106.body).getD .skip
noncomputable def E_Q_only (g : C_Q_only) : Env A := mkE [(143, SS_strings_IndexByte g.strings_IndexByte)] [] [(2, ⟨[0, 1, 7, 8], [], [], [], [], [], []⟩)] [(2, ⟨[4], [], [], [], [], [], []⟩)] [(2, pieceOf sh_Q_only_L2 (LP_Q_only_L2 g g.N))] [] [] [] [] []
theorem ct_Q_only [Fuel] : NatTab (E_Q_only I_Q_only).C := ct_of (P := Tryz.prog) (T := T) (.cons ok_strings_IndexByte .nil) (by kernel_rfl)
noncomputable def cb_Q_only_L2 : Code := sub [1, 0, 1, 0, 0] code_106
theorem s_Q_only_L2 (g : C_Q_only) (n : Nat) : StepOk (E_Q_only g) g.N cb_Q_only_L2 sh_Q_only_L2 (LP_Q_only_L2 g) n := by intro ps; unfold LP_Q_only_L2; split; exact .inr fun R K => (by kernel_rfl); exact .inl fun R K => rfl
theorem lf_Q_only_L2 [Fuel] : LoopFine (E_Q_only I_Q_only) NN cb_Q_only_L2 := fine_loop sh_Q_only_L2 (LP_Q_only_L2 I_Q_only) (by kernel_rfl) ct_Q_only (cuts0 (fun _ => rfl) (by kernel_rfl)) (fun ps R K => by unfold LP_Q_only_L2; split <;> (try unfold Q_only_L2) <;> rfl) (s_Q_only_L2 I_Q_only)
theorem sm_Q_only (g : C_Q_only) : Same (SS_Q_only (@Q_only_ g)) (abody (E_Q_only g) Tryz.f106 code_106 0 [] [.asis] g.N) := by intro args; unfold SS_Q_only; split; exact .inr fun R k => (by kernel_rfl); exact .inl fun R k => rfl
theorem ok_Q_only [Fuel] : Ok 106 (SS_Q_only (@Q_only _)) := okF_of std (.cons ok_strings_IndexByte .nil) ⟨rfl, rfl, by kernel_rfl, rfl, rfl, rfl⟩ (sm_Q_only I_Q_only) (cutsL (fun _ => rfl) (.cons lf_Q_only_L2 .nil) (by kernel_rfl)) Tryz.func106 (by kernel_rfl) (by kernel_rfl)
abbrev T_Q_Key : Type 1 := List UInt8 → {R : Type} → (Bool → Option R) → Option R
structure C_Q_Key where
 N : Nat
 Q_in : T_Q_in
 Q_only : T_Q_only
def Q_Key_ (g : C_Q_Key) (a1 : List UInt8) {R : Type} (k0 : Bool → Option R) : Option R :=
 (g.Q_in (a1.length : Int) 1 40 (fun r2 => (bif r2 then (bif (decide (0 ≤ 1) && decide (1 ≤ (a1.length : Int))) then (g.Q_only (a1.take (1 : Int).toNat) [97, 98, 99, 100, 101, 102, 103, 104, 105, 106, 107, 108, 109, 110, 111, 112, 113, 114, 115, 116, 117, 118, 119, 120, 121, 122] (fun r3 => (bif r3 then (g.Q_only a1 [97, 98, 99, 100, 101, 102, 103, 104, 105, 106, 107, 108, 109, 110, 111, 112, 113, 114, 115, 116, 117, 118, 119, 120, 121, 122, 48, 49, 50, 51, 52, 53, 54, 55, 56, 57, 45, 95] (fun r4 => k0 r4)) else k0 false))) else none) else k0 false)))
noncomputable def I_Q_Key [Fuel] : C_Q_Key := ⟨NN, @Q_in _, @Q_only _⟩
noncomputable def Q_Key [Fuel] : T_Q_Key := @Q_Key_ I_Q_Key
def SS_Q_Key (g : T_Q_Key) : Spec A := fun args => match args with | [.d (.str a1)] => fun k => g a1 (fun z0 => k (.d (.bool z0)) [.undef]) | _ => fun _ => none
noncomputable def code_56 : Code := (Tryz.f56.body).getD .skip
noncomputable def E_Q_Key (g : C_Q_Key) : Env A := mkE [(57, SS_Q_in g.Q_in), (106, SS_Q_only g.Q_only)] [] [] [] [] [] [] [] [] []
theorem sm_Q_Key (g : C_Q_Key) : Same (SS_Q_Key (@Q_Key_ g)) (abody (E_Q_Key g) Tryz.f56 code_56 0 [] [.asis] g.N) := by intro args; unfold SS_Q_Key; split; exact .inr fun R k => (by kernel_rfl); exact .inl fun R k => rfl
theorem ok_Q_Key [Fuel] : Ok 56 (SS_Q_Key (@Q_Key _)) := okF_of std (.cons ok_Q_in (.cons ok_Q_only .nil)) ⟨rfl, rfl, by kernel_rfl, rfl, rfl, rfl⟩ (sm_Q_Key I_Q_Key) (cuts0 (fun _ => rfl) (by kernel_rfl)) Tryz.func56 (by kernel_rfl) (by kernel_rfl)
abbrev T_z41z : Type 1 := G_Band → List UInt8 → {R : Type} → (Bool → List UInt8 → Option R) → Option R
def z41z_ (g : Nat) (a1 : G_Band) (a2 : List UInt8) {R : Type} (k0 : Bool → List UInt8 → Option R) : Option R :=
 k0 (a1.f_Key == a2) a2
noncomputable def z41z [Fuel] : T_z41z := @z41z_ NN
def SS_z41z (g : T_z41z) : Spec A := fun args => match args with | [.agg [.d (.str a1), .d (.int .i64 a2), .d (.int .i64 a3)], .box [.d (.str a4)]] => fun k => g ⟨a1, a2, a3⟩ a4 (fun z0 z1 => k (.d (.bool z0)) [.undef, .box [.d (.str z1)]]) | _ => fun _ => none
noncomputable def code_108 : Code := (Tryz.f108.body).getD .skip
noncomputable def E_z41z (g : Nat) : Env A := mkE [] [(2, [1])] [] [] [] [] [] [] [] [1]
theorem sm_z41z (g : Nat) : Same (SS_z41z (@z41z_ g)) (abody (E_z41z g) Tryz.f108 code_108 2 [0] [.asis] g) := by intro args; unfold SS_z41z; split; exact .inr fun R k => (by kernel_rfl); exact .inl fun R k => rfl
theorem ok_z41z [Fuel] : Ok 108 (SS_z41z (@z41z _)) := okF_of std .nil ⟨rfl, rfl, by kernel_rfl, rfl, rfl, rfl⟩ (sm_z41z NN) (cuts0 (fun _ => rfl) (by kernel_rfl)) Tryz.func108 (by kernel_rfl) (by kernel_rfl)
abbrev T_z16z : Type 1 := List G_Band → List UInt8 → {R : Type} → (Int → List UInt8 → Option R) → Option R
structure C_z16z where
 N : Nat
 z41z : T_z41z
def z16z_L2 (g : C_z16z) : Nat → List G_Band → Int → Int → List UInt8 → {R : Type} → (Int → List UInt8 → Option R) → (List UInt8 → Option R) → Option R
 | 0, _, _, _, _, _, _, _ => none
 | n + 1, v3, v4, v5, v6, _, e0, e1 => (bif (decide (v5 < v4)) then (get_ v3 v5 fun x10 => (g.z41z x10 v6 (fun r11 r12 => (bif r11 then e0 v5 r12 else z16z_L2 g n v3 v4 (w64 (v5 + 1)) r12 e0 e1)))) else e1 v6)
def z16z_ (g : C_z16z) (a1 : List G_Band) (a2 : List UInt8) {R : Type} (k0 : Int → List UInt8 → Option R) : Option R :=
 (z16z_L2 g g.N a1 (a1.length : Int) 0 a2 (fun e13 e14 => k0 e13 e14) (fun e15 => k0 (-1) e15))
noncomputable def I_z16z [Fuel] : C_z16z := ⟨NN, @z41z _⟩
noncomputable def z16z [Fuel] : T_z16z := @z16z_ I_z16z
def SS_z16z (g : T_z16z) : Spec A := fun args => match args with | [.d (.sl 69 a1), .fn 108 [.box [.d (.str a2)]]] => fun k => g a1 a2 (fun z0 z1 => k (.d (.int .i64 z0)) [.undef, .fn 108 [.box [.d (.str z1)]]]) | _ => fun _ => none
def sh_z16z_L2 : SSt := mkSh 19 1 [(0, .sl 69), (1, .fn 108 [.ptr 0 0]), (7, .int .i64), (8, .int .i64)] [(0, .box [.str])]
def LP_z16z_L2 (g : C_z16z) (n : Nat) : LPT A := fun ps => match ps with | [.d (.sl 69 p1), .d (.int .i64 p2), .d (.int .i64 p3), .d (.str p4)] => fun K => z16z_L2 g n p1 p2 p3 p4 (fun z0 z1 => K .ret (mkSt 19 1 [(1, .fn 108 [.ptr 0 0]), (4, .d (.int .i64 z0))] [(0, some (.box [.d (.str z1)]))])) (fun z0 => K (.exit 0) (mkSt 19 1 [(1, .fn 108 [.ptr 0 0])] [(0, some (.box [.d (.str z0)]))])) | _ => fun _ => none
noncomputable def E_z16z (g : C_z16z) : Env A := mkE [(108, SS_z41z g.z41z)] [] [(2, ⟨[0, 1, 7, 8], [], [0], [], [], [], []⟩)] [(2, ⟨[1, 4], [], [0], [], [], [], []⟩)] [(2, pieceOf sh_z16z_L2 (LP_z16z_L2 g g.N))] [] [] [] [] [1]
theorem ct_z16z [Fuel] : NatTab (E_z16z I_z16z).C := ct_of (P := Tryz.prog) (T := T) (.cons ok_z41z .nil) (by kernel_rfl)
noncomputable def cb_z16z_L2 : Code := sub [1, 0, 1, 0, 0] code_107
theorem s_z16z_L2 (g : C_z16z) (n : Nat) : StepOk (E_z16z g) g.N cb_z16z_L2 sh_z16z_L2 (LP_z16z_L2 g) n := by intro ps; unfold LP_z16z_L2; split; exact .inr fun R K => (by kernel_rfl); exact .inl fun R K => rfl
theorem lf_z16z_L2 [Fuel] : LoopFine (E_z16z I_z16z) NN cb_z16z_L2 := fine_loop sh_z16z_L2 (LP_z16z_L2 I_z16z) (by kernel_rfl) ct_z16z (cuts0 (fun _ => rfl) (by kernel_rfl)) (fun ps R K => by unfold LP_z16z_L2; split <;> (try unfold z16z_L2) <;> rfl) (s_z16z_L2 I_z16z)
theorem sm_z16z (g : C_z16z) : Same (SS_z16z (@z16z_ g)) (abody (E_z16z g) Tryz.f107 code_107 1 [0] [.asis] g.N) := by intro args; unfold SS_z16z; split; exact .inr fun R k => (by kernel_rfl); exact .inl fun R k => rfl
theorem ok_z16z [Fuel] : Ok 107 (SS_z16z (@z16z _)) := okF_of std (.cons ok_z41z .nil) ⟨rfl, rfl, by kernel_rfl, rfl, rfl, rfl⟩ (sm_z16z I_z16z) (cutsL (fun _ => rfl) (.cons lf_z16z_L2 .nil) (by kernel_rfl)) Tryz.func107 (by kernel_rfl) (by kernel_rfl)
abbrev T_z35z : Type 1 := List G_Band → List UInt8 → {R : Type} → (Int → Option R) → Option R
structure C_z35z where
 N : Nat
 z16z : T_z16z
def z35z_ (g : C_z35z) (a1 : List G_Band) (a2 : List UInt8) {R : Type} (k0 : Int → Option R) : Option R :=
 (g.z16z a1 a2 (fun r3 r4 => k0 r3))
noncomputable def I_z35z [Fuel] : C_z35z := ⟨NN, @z16z _⟩
noncomputable def z35z [Fuel] : T_z35z := @z35z_ I_z35z
def SS_z35z (g : T_z35z) : Spec A := fun args => match args with | [.d (.sl 69 a1), .d (.str a2)] => fun k => g a1 a2 (fun z0 => k (.d (.int .i64 z0)) [.undef, .undef]) | _ => fun _ => none
noncomputable def code_58 : Code := (Tryz.f58.body).getD .skip
noncomputable def E_z35z (g : C_z35z) : Env A := mkE [(107, SS_z16z g.z16z)] [(3, [0])] [] [] [] [] [] [] [(107, 0)] []
theorem sm_z35z (g : C_z35z) : Same (SS_z35z (@z35z_ g)) (abody (E_z35z g) Tryz.f58 code_58 1 [] [.asis] g.N) := by intro args; unfold SS_z35z; split; exact .inr fun R k => (by kernel_rfl); exact .inl fun R k => rfl
theorem ok_z35z [Fuel] : Ok 58 (SS_z35z (@z35z _)) := okF_of std (.cons ok_z16z .nil) ⟨rfl, rfl, by kernel_rfl, rfl, rfl, rfl⟩ (sm_z35z I_z35z) (cuts0 (fun _ => rfl) (by kernel_rfl)) Tryz.func58 (by kernel_rfl) (by kernel_rfl)
abbrev T_z34z : Type 1 := List G_Band → {R : Type} → (Int → Option R) → Option R
structure C_z34z where
 N : Nat
 Q_Key : T_Q_Key
 Q_in : T_Q_in
 z35z : T_z35z
def z34z_L4 (g : C_z34z) : Nat → List G_Band → List G_Band → Int → Int → {R : Type} → (List G_Band → Int → Option R) → (List G_Band → Option R) → Option R
 | 0, _, _, _, _, _, _, _ => none
 | n + 1, v2, v3, v4, v5, _, e0, e1 => (bif (decide (v5 < v4)) then (get_ v3 v5 fun x11 => (g.Q_Key x11.f_Key (fun r12 => (bif (!r12) then e0 v2 5 else (g.Q_in x11.f_Low 0 30000000000 (fun r13 => (bif (!r13) then e0 v2 1 else (g.Q_in x11.f_High (w64 (x11.f_Low + 1)) 30000000000 (fun r14 => (bif (!r14) then e0 v2 1 else (bif ((Int.tmod x11.f_Low 1000) != 0) then e0 v2 1 else (bif ((Int.tmod x11.f_High 1000) != 0) then e0 v2 1 else (bif (decide (v5 > 0)) then (get_ v2 (w64 (v5 - 1)) fun x15 => (bif (decide (x11.f_Low < x15.f_High)) then e0 v2 7 else z34z_L4 g n v2 v3 v4 (w64 (v5 + 1)) e0 e1)) else z34z_L4 g n v2 v3 v4 (w64 (v5 + 1)) e0 e1))))))))))))) else e1 v2)
def z34z_L14 (g : C_z34z) : Nat → List G_Band → List G_Band → Int → Int → {R : Type} → (Int → Option R) → Option R → Option R
 | 0, _, _, _, _, _, _, _ => none
 | n + 1, v19, v20, v21, v22, _, e0, e1 => (bif (decide (v22 < v21)) then (get_ v20 v22 fun x25 => (bif (decide (0 ≤ v22) && decide (v22 ≤ (v19.length : Int))) then (g.z35z (v19.take (v22 : Int).toNat) x25.f_Key (fun r26 => (bif (decide (r26 ≥ 0)) then e0 6 else z34z_L14 g n v19 v20 v21 (w64 (v22 + 1)) e0 e1))) else none)) else e1)
def z34z_ (g : C_z34z) (a1 : List G_Band) {R : Type} (k0 : Int → Option R) : Option R :=
 (bif (decide ((a1.length : Int) > 30)) then k0 2 else (z34z_L4 g g.N a1 a1 (a1.length : Int) 0 (fun e16 e17 => k0 e17) (fun e18 => (z34z_L14 g g.N e18 e18 (e18.length : Int) 0 (fun e27 => k0 e27) (k0 0)))))
noncomputable def I_z34z [Fuel] : C_z34z := ⟨NN, @Q_Key _, @Q_in _, @z35z _⟩
noncomputable def z34z [Fuel] : T_z34z := @z34z_ I_z34z
def SS_z34z (g : T_z34z) : Spec A := fun args => match args with | [.d (.sl 69 a1)] => fun k => g a1 (fun z0 => k (.d (.int .i64 z0)) [.undef]) | _ => fun _ => none
def sh_z34z_L4 : SSt := mkSh 78 2 [(0, .sl 69), (10, .sl 69), (11, .int .i64), (12, .int .i64)] []
def LP_z34z_L4 (g : C_z34z) (n : Nat) : LPT A := fun ps => match ps with | [.d (.sl 69 p1), .d (.sl 69 p2), .d (.int .i64 p3), .d (.int .i64 p4)] => fun K => z34z_L4 g n p1 p2 p3 p4 (fun z0 z1 => K .ret (mkSt 78 2 [(0, .d (.sl 69 z0)), (2, .d (.int .i64 z1))] [])) (fun z0 => K (.exit 0) (mkSt 78 2 [(0, .d (.sl 69 z0))] [])) | _ => fun _ => none
def sh_z34z_L14 : SSt := mkSh 78 2 [(0, .sl 69), (63, .sl 69), (64, .int .i64), (65, .int .i64)] []
def LP_z34z_L14 (g : C_z34z) (n : Nat) : LPT A := fun ps => match ps with | [.d (.sl 69 p1), .d (.sl 69 p2), .d (.int .i64 p3), .d (.int .i64 p4)] => fun K => z34z_L14 g n p1 p2 p3 p4 (fun z0 => K .ret (mkSt 78 2 [(2, .d (.int .i64 z0))] [])) (K (.exit 3) (mkSt 78 2 [] [])) | _ => fun _ => none
noncomputable def code_14 : Code := (Tryz.f14.body).getD .skip
noncomputable def E_z34z (g : C_z34z) : Env A := mkE [(56, SS_Q_Key g.Q_Key), (57, SS_Q_in g.Q_in), (58, SS_z35z g.z35z)] [(4, [0]), (6, [1])] [(4, ⟨[0, 10, 11, 12], [], [], [], [], [], []⟩), (14, ⟨[0, 63, 64, 65], [], [], [], [], [], []⟩)] [(4, ⟨[0, 2], [], [], [], [], [], []⟩), (14, ⟨[2], [], [], [], [], [], []⟩)] [(4, pieceOf sh_z34z_L4 (LP_z34z_L4 g g.N)), (14, pieceOf sh_z34z_L14 (LP_z34z_L14 g g.N))] [] [] [] [] []
theorem ct_z34z [Fuel] : NatTab (E_z34z I_z34z).C := ct_of (P := Tryz.prog) (T := T) (.cons ok_Q_Key (.cons ok_Q_in (.cons ok_z35z .nil))) (by kernel_rfl)
noncomputable def cb_z34z_L4 : Code := sub [1, 1, 0, 1, 0, 0] code_14
theorem s_z34z_L4 (g : C_z34z) (n : Nat) : StepOk (E_z34z g) g.N cb_z34z_L4 sh_z34z_L4 (LP_z34z_L4 g) n := by intro ps; unfold LP_z34z_L4; split; exact .inr fun R K => (by kernel_rfl); exact .inl fun R K => rfl
theorem lf_z34z_L4 [Fuel] : LoopFine (E_z34z I_z34z) NN cb_z34z_L4 := fine_loop sh_z34z_L4 (LP_z34z_L4 I_z34z) (by kernel_rfl) ct_z34z (cuts0 (fun _ => rfl) (by kernel_rfl)) (fun ps R K => by unfold LP_z34z_L4; split <;> (try unfold z34z_L4) <;> rfl) (s_z34z_L4 I_z34z)
noncomputable def cb_z34z_L14 : Code := sub [1, 1, 1, 0, 1, 0, 0] code_14
theorem s_z34z_L14 (g : C_z34z) (n : Nat) : StepOk (E_z34z g) g.N cb_z34z_L14 sh_z34z_L14 (LP_z34z_L14 g) n := by intro ps; unfold LP_z34z_L14; split; exact .inr fun R K => (by kernel_rfl); exact .inl fun R K => rfl
theorem lf_z34z_L14 [Fuel] : LoopFine (E_z34z I_z34z) NN cb_z34z_L14 := fine_loop sh_z34z_L14 (LP_z34z_L14 I_z34z) (by kernel_rfl) ct_z34z (cuts0 (fun _ => rfl) (by kernel_rfl)) (fun ps R K => by unfold LP_z34z_L14; split <;> (try unfold z34z_L14) <;> rfl) (s_z34z_L14 I_z34z)
theorem sm_z34z (g : C_z34z) : Same (SS_z34z (@z34z_ g)) (abody (E_z34z g) Tryz.f14 code_14 2 [] [.asis] g.N) := by intro args; unfold SS_z34z; split; exact .inr fun R k => (by kernel_rfl); exact .inl fun R k => rfl
theorem ok_z34z [Fuel] : Ok 14 (SS_z34z (@z34z _)) := okF_of std (.cons ok_Q_Key (.cons ok_Q_in (.cons ok_z35z .nil))) ⟨rfl, rfl, by kernel_rfl, rfl, rfl, rfl⟩ (sm_z34z I_z34z) (cutsL (fun _ => rfl) (.cons lf_z34z_L4 (.cons lf_z34z_L14 .nil)) (by kernel_rfl)) Tryz.func14 (by kernel_rfl) (by kernel_rfl)
abbrev T_z88z : Type 1 := Int → Int → {R : Type} → (Int → Option R) → Option R
structure C_z88z where
 N : Nat
 Q_in : T_Q_in
 Q_Moment : T_Q_Moment
def z88z_ (g : C_z88z) (a1 a2 : Int) {R : Type} (k0 : Int → Option R) : Option R :=
 (g.Q_in a1 1 86400000 (fun r3 => (bif (!r3) then k0 1 else (g.Q_Moment a2 (fun r4 => (bif (!r4) then k0 1 else k0 0))))))
noncomputable def I_z88z [Fuel] : C_z88z := ⟨NN, @Q_in _, @Q_Moment _⟩
noncomputable def z88z [Fuel] : T_z88z := @z88z_ I_z88z
def SS_z88z (g : T_z88z) : Spec A := fun args => match args with | [.d (.int .i64 a1), .d (.int .i64 a2)] => fun k => g a1 a2 (fun z0 => k (.d (.int .i64 z0)) [.undef, .undef]) | _ => fun _ => none
noncomputable def code_18 : Code := (Tryz.f18.body).getD .skip
noncomputable def E_z88z (g : C_z88z) : Env A := mkE [(57, SS_Q_in g.Q_in), (59, SS_Q_Moment g.Q_Moment)] [] [] [] [] [] [] [] [] []
theorem sm_z88z (g : C_z88z) : Same (SS_z88z (@z88z_ g)) (abody (E_z88z g) Tryz.f18 code_18 0 [] [.asis] g.N) := by intro args; unfold SS_z88z; split; exact .inr fun R k => (by kernel_rfl); exact .inl fun R k => rfl
theorem ok_z88z [Fuel] : Ok 18 (SS_z88z (@z88z _)) := okF_of std (.cons ok_Q_in (.cons ok_Q_Moment .nil)) ⟨rfl, rfl, by kernel_rfl, rfl, rfl, rfl⟩ (sm_z88z I_z88z) (cuts0 (fun _ => rfl) (by kernel_rfl)) Tryz.func18 (by kernel_rfl) (by kernel_rfl)
abbrev T_z57z : Type 1 := List G_Spot → {R : Type} → (List G_Spot → Option R) → Option R
noncomputable def z57z [Fuel] : T_z57z := @X_sortf G_Spot (@z10z _)
def SS_z57z (g : T_z57z) : Spec A := fun args => match args with | [.arr 52 a1, .fn 40 []] => fun k => g a1 (fun z => k (.tup []) [.arr 52 z, .fn 40 []]) | _ => fun _ => none
theorem h1_z57z [Fuel] (xs : List (A 52)) (R : Type) (k : IV A → List (IV A) → Option R) : SS_z57z (@z57z _) [.arr 52 xs, .fn 40 []] k = X_sortf (α := A 52) (@z10z _) xs (fun z => k (.tup []) [.arr 52 z, .fn 40 []]) := by kernel_rfl
theorem h2_z57z [Fuel] (args : List (IV A)) (R : Type) (k : IV A → List (IV A) → Option R) (h : ∀ xs : List (A 52), args ≠ [.arr 52 xs, .fn 40 []]) : SS_z57z (@z57z _) args k = none := by unfold SS_z57z; split; exact absurd rfl (h _); rfl
theorem hc_z57z [Fuel] (x y : A 52) (R : Type) (k : Int → Option R) : callOf T (SS_z10z (@z10z _)) 52 x y k = @z10z _ x y R k := by kernel_rfl
theorem hs_z57z (x : G_Spot) : (enc_e52 x).all scal = true := rfl
theorem ok_z57z [Fuel] : Ok 75 (SS_z57z (@z57z _)) := ⟨sortf_sound (tyOk Tryz.prog) (e := 52) Tryz.sortf75 Tryz.isAgg52 Tryz.sizeOf52 (fun x d hd => List.all_eq_true.1 (hs_z57z x) d hd) hc_z57z okd_z10z.fs okd_z10z.en h1_z57z h2_z57z, sortf_na (e := 52) h1_z57z h2_z57z, enters_of (fn := Tryz.f75) Tryz.func75 (by kernel_rfl) (by kernel_rfl)⟩
abbrev T_Q_SpotsOf : Type 1 := List G_Spot → List G_Spot → {R : Type} → (List G_Spot → Int → Option R) → Option R
structure C_Q_SpotsOf where
 N : Nat
 z26z : T_z26z
 z23z : T_z23z
 z57z : T_z57z
def Q_SpotsOf_ (g : C_Q_SpotsOf) (a1 a2 : List G_Spot) {R : Type} (k0 : List G_Spot → Int → Option R) : Option R :=
 (g.z23z [a1, a2] (fun r3 => (g.z57z r3 (fun r4 => (g.z26z r4 (fun r5 => (bif (decide ((r5.length : Int) > 2000)) then k0 [] 2 else k0 r5 0)))))))
noncomputable def I_Q_SpotsOf [Fuel] : C_Q_SpotsOf := ⟨NN, @z26z _, @z23z _, @z57z _⟩
noncomputable def Q_SpotsOf [Fuel] : T_Q_SpotsOf := @Q_SpotsOf_ I_Q_SpotsOf
def SS_Q_SpotsOf (g : T_Q_SpotsOf) : Spec A := fun args => match args with | [.d (.sl 52 a1), .d (.sl 52 a2)] => fun k => g a1 a2 (fun z0 z1 => k (.tup [.arr 52 z0, .d (.int .i64 z1)]) [.undef, .undef]) | _ => fun _ => none
noncomputable def code_28 : Code := (Tryz.f28.body).getD .skip
noncomputable def E_Q_SpotsOf (g : C_Q_SpotsOf) : Env A := mkE [(41, SS_z26z g.z26z), (74, SS_z23z g.z23z), (75, SS_z57z g.z57z)] [(9, [0]), (10, [1]), (14, [2])] [] [] [] [] [] [] [(41, 0), (75, 0)] []
theorem sm_Q_SpotsOf (g : C_Q_SpotsOf) : Same (SS_Q_SpotsOf (@Q_SpotsOf_ g)) (abody (E_Q_SpotsOf g) Tryz.f28 code_28 3 [] [.arr 52, .asis] g.N) := by intro args; unfold SS_Q_SpotsOf; split; exact .inr fun R k => (by kernel_rfl); exact .inl fun R k => rfl
theorem ok_Q_SpotsOf [Fuel] : Ok 28 (SS_Q_SpotsOf (@Q_SpotsOf _)) := okF_of std (.cons ok_z26z (.cons ok_z23z (.cons ok_z57z .nil))) ⟨rfl, rfl, by kernel_rfl, rfl, rfl, rfl⟩ (sm_Q_SpotsOf I_Q_SpotsOf) (cuts0 (fun _ => rfl) (by kernel_rfl)) Tryz.func28 (by kernel_rfl) (by kernel_rfl)
end Go.Am
