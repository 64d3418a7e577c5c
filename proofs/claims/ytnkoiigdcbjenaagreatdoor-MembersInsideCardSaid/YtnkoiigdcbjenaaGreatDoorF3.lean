/- The functions of the program as Lean functions, each shown to be what the code computes, part 3. No condition: lemmas for the claim. -/
import Derived.Test.YtnkoiigdcbjenaaGreatDoorF0
import Derived.Test.YtnkoiigdcbjenaaGreatDoorFSh
import Derived.Test.YtnkoiigdcbjenaaGreatDoorF1
import Derived.Test.YtnkoiigdcbjenaaGreatDoorF2
set_option linter.unusedVariables false
set_option maxRecDepth 100000
namespace Go.Am
open Go Go.Proofs
abbrev T_call_tail : Type 1 := List UInt8 → {R : Type} → (Int → List UInt8 → Bool → Option R) → Option R
structure C_call_tail where
  N : Nat
  call_isBegin : T_call_isBegin
  call_isDigit : T_call_isDigit
def call_tail_ (g : C_call_tail) (a1 : List UInt8) {R : Type} (k0 : Int → List UInt8 → Bool → Option R) : Option R :=
  (bif (a1 == [112]) then k0 3 [] true else (bif (a1 == [109]) then k0 4 [] true else (bif (a1 == [109, 109]) then k0 5 [] true else (bif (a1 == [97, 109]) then k0 6 [] true else (bif ((a1.length : Int) == 1) then (at_ a1 0 fun x2 => (g.call_isDigit (x2.toNat : Int) (fun r3 => (bif r3 then k0 2 a1 true else (g.call_isBegin a1 (fun r4 => k0 1 a1 r4)))))) else (g.call_isBegin a1 (fun r5 => k0 1 a1 r5)))))))
noncomputable def I_call_tail [Fuel] : C_call_tail := ⟨NN, @call_isBegin _, @call_isDigit _⟩
noncomputable def call_tail [Fuel] : T_call_tail := @call_tail_ I_call_tail
def SS_call_tail (g : T_call_tail) : Spec A := fun args => match args with | [.d (.str a1)] => fun k => g a1 (fun z0 z1 z2 => k (.tup [.d (.int .i64 z0), .d (.str z1), .d (.bool z2)]) [.undef]) | _ => fun _ => none
noncomputable def code_146 : Code := (Tryz.f146.body).getD .skip
noncomputable def E_call_tail (g : C_call_tail) : Env A := mkE [(145, SS_call_isBegin g.call_isBegin), (191, SS_call_isDigit g.call_isDigit)] [] [] [] [] [] [] [] [] []
theorem sm_call_tail (g : C_call_tail) : Same (SS_call_tail (@call_tail_ g)) (abody (E_call_tail g) Tryz.f146 code_146 0 [] [.asis, .asis, .asis] g.N) := by intro args; unfold SS_call_tail; split; exact .inr fun R k => (by kernel_rfl); exact .inl fun R k => rfl
theorem ok_call_tail [Fuel] : Ok 146 (SS_call_tail (@call_tail _)) := okF_of std (.cons ok_call_isBegin (.cons ok_call_isDigit .nil)) ⟨rfl, rfl, by kernel_rfl, rfl, rfl, rfl⟩ (sm_call_tail I_call_tail) (cuts0 (fun _ => rfl) (by kernel_rfl)) Tryz.func146 (by kernel_rfl) (by kernel_rfl)
abbrev T_call_Parts : Type 1 := List UInt8 → {R : Type} → (G_Parts → Bool → Option R) → Option R
structure C_call_Parts where
  N : Nat
  strings_Cut : T_strings_Cut
  call_based : T_call_based
  call_isBegin : T_call_isBegin
  call_tail : T_call_tail
def call_Parts_ (g : C_call_Parts) (a1 : List UInt8) {R : Type} (k0 : G_Parts → Bool → Option R) : Option R :=
  (bif (decide ((a1.length : Int) > 14)) then k0 (⟨[], [], [], 0, []⟩ : G_Parts) false else (g.call_based a1 (fun r2 r3 => (bif r3 then k0 r2 true else (g.strings_Cut a1 [47] (fun r4 r5 r6 => (bif (!r6) then k0 (⟨[], [], [], 0, []⟩ : G_Parts) false else (g.call_based r5 (fun r7 r8 => (bif r8 then (g.call_isBegin r4 (fun r9 => (bif r9 then k0 (⟨r7.f_Base, r7.f_Prefix, r7.f_Suffix, 1, r4⟩ : G_Parts) true else (g.call_based r4 (fun r10 r11 => (g.call_tail r5 (fun r12 r13 r14 => (bif (!r11) then k0 (⟨[], [], [], 0, []⟩ : G_Parts) false else (bif (!r14) then k0 (⟨[], [], [], 0, []⟩ : G_Parts) false else k0 (⟨r10.f_Base, r10.f_Prefix, r10.f_Suffix, r12, r13⟩ : G_Parts) true))))))))) else (g.call_based r4 (fun r15 r16 => (g.call_tail r5 (fun r17 r18 r19 => (bif (!r16) then k0 (⟨[], [], [], 0, []⟩ : G_Parts) false else (bif (!r19) then k0 (⟨[], [], [], 0, []⟩ : G_Parts) false else k0 (⟨r15.f_Base, r15.f_Prefix, r15.f_Suffix, r17, r18⟩ : G_Parts) true))))))))))))))))
noncomputable def I_call_Parts [Fuel] : C_call_Parts := ⟨NN, @strings_Cut _, @call_based _, @call_isBegin _, @call_tail _⟩
noncomputable def call_Parts [Fuel] : T_call_Parts := @call_Parts_ I_call_Parts
def SS_call_Parts (g : T_call_Parts) : Spec A := fun args => match args with | [.d (.str a1)] => fun k => g a1 (fun z0 z1 => k (.tup [.agg [.d (.str z0.f_Base), .d (.str z0.f_Prefix), .d (.str z0.f_Suffix), .d (.int .i64 z0.f_Kind), .d (.str z0.f_Added)], .d (.bool z1)]) [.undef]) | _ => fun _ => none
noncomputable def code_108 : Code := (Tryz.f108.body).getD .skip
noncomputable def E_call_Parts (g : C_call_Parts) : Env A := mkE [(134, SS_strings_Cut g.strings_Cut), (144, SS_call_based g.call_based), (145, SS_call_isBegin g.call_isBegin), (146, SS_call_tail g.call_tail)] [(2, [0]), (4, [1]), (9, [2]), (11, [3])] [] [] [] [] [] [] [] []
theorem sm_call_Parts (g : C_call_Parts) : Same (SS_call_Parts (@call_Parts_ g)) (abody (E_call_Parts g) Tryz.f108 code_108 4 [] [.asis, .asis] g.N) := by intro args; unfold SS_call_Parts; split; exact .inr fun R k => (by kernel_rfl); exact .inl fun R k => rfl
theorem ok_call_Parts [Fuel] : Ok 108 (SS_call_Parts (@call_Parts _)) := okF_of std (.cons ok_strings_Cut (.cons ok_call_based (.cons ok_call_isBegin (.cons ok_call_tail .nil)))) ⟨rfl, rfl, by kernel_rfl, rfl, rfl, rfl⟩ (sm_call_Parts I_call_Parts) (cuts0 (fun _ => rfl) (by kernel_rfl)) Tryz.func108 (by kernel_rfl) (by kernel_rfl)
abbrev T_strings_Compare : Type 1 := List UInt8 → List UInt8 → {R : Type} → (Int → Option R) → Option R
def strings_Compare [Fuel] : T_strings_Compare := @X_cmp
def SS_strings_Compare (g : T_strings_Compare) : Spec A := SSX_cmp g
theorem ok_strings_Compare [Fuel] : Ok 90 (SS_strings_Compare (@strings_Compare _)) := ⟨ssx_cmp_sound (cmp_sound (Any.strings_Compare Tryz.lays106)), ssx_cmp_nat, enters_of (fn := Tryz.f90) Tryz.func90 (by kernel_rfl) (by kernel_rfl)⟩
theorem okd_strings_Compare [Fuel] : OkD 90 (SS_strings_Compare (@strings_Compare _)) := ⟨ssx_cmp_sound (cmp_sound (Any.strings_Compare Tryz.lays106)), ssx_cmp_nat, enters_of (fn := Tryz.f90) Tryz.func90 (by kernel_rfl) (by kernel_rfl)⟩
abbrev T_club_clubAt_1 : Type 1 := G_Club → List UInt8 → {R : Type} → (Int → Option R) → Option R
structure C_club_clubAt_1 where
  N : Nat
  strings_Compare : T_strings_Compare
def club_clubAt_1_ (g : C_club_clubAt_1) (a1 : G_Club) (a2 : List UInt8) {R : Type} (k0 : Int → Option R) : Option R :=
  (g.strings_Compare a1.f_Key a2 (fun r3 => k0 r3))
noncomputable def I_club_clubAt_1 [Fuel] : C_club_clubAt_1 := ⟨NN, @strings_Compare _⟩
noncomputable def club_clubAt_1 [Fuel] : T_club_clubAt_1 := @club_clubAt_1_ I_club_clubAt_1
def SS_club_clubAt_1 (g : T_club_clubAt_1) : Spec A := fun args => match args with | [.agg [.d (.str a1), .d (.sl 9 a2)], .d (.str a3)] => fun k => g ⟨a1, a2⟩ a3 (fun z0 => k (.d (.int .i64 z0)) [.undef, .undef]) | _ => fun _ => none
noncomputable def code_150 : Code := (Tryz.f150.body).getD .skip
noncomputable def E_club_clubAt_1 (g : C_club_clubAt_1) : Env A := mkE [(90, SS_strings_Compare g.strings_Compare)] [(2, [0])] [] [] [] [] [] [] [] []
theorem sm_club_clubAt_1 (g : C_club_clubAt_1) : Same (SS_club_clubAt_1 (@club_clubAt_1_ g)) (abody (E_club_clubAt_1 g) Tryz.f150 code_150 1 [] [.asis] g.N) := by intro args; unfold SS_club_clubAt_1; split; exact .inr fun R k => (by kernel_rfl); exact .inl fun R k => rfl
theorem ok_club_clubAt_1 [Fuel] : Ok 150 (SS_club_clubAt_1 (@club_clubAt_1 _)) := okF_of std (.cons ok_strings_Compare .nil) ⟨rfl, rfl, by kernel_rfl, rfl, rfl, rfl⟩ (sm_club_clubAt_1 I_club_clubAt_1) (cuts0 (fun _ => rfl) (by kernel_rfl)) Tryz.func150 (by kernel_rfl) (by kernel_rfl)
abbrev T_slices_BinarySearchFunc__Club_string_club_clubAt_1 : Type 1 := List G_Club → List UInt8 → {R : Type} → (Int → Bool → Option R) → Option R
structure C_slices_BinarySearchFunc__Club_string_club_clubAt_1 where
  N : Nat
  club_clubAt_1 : T_club_clubAt_1
def slices_BinarySearchFunc__Club_string_club_clubAt_1_L3 (g : C_slices_BinarySearchFunc__Club_string_club_clubAt_1) : Nat → List G_Club → List UInt8 → Int → Int → Int → {R : Type} → (List G_Club → List UInt8 → Int → Int → Option R) → Option R
  | 0, _, _, _, _, _, _, _ => none
  | n + 1, v3, v4, v5, v6, v7, _, e0 => (bif (decide (v6 < v7)) then (get_ v3 (w64 (Int.fdiv (IntKind.u64.wrap (w64 (v6 + v7))) (2 ^ (1 : Int).toNat))) fun x10 => (g.club_clubAt_1 x10 v4 (fun r11 => (bif (decide (r11 < 0)) then slices_BinarySearchFunc__Club_string_club_clubAt_1_L3 g n v3 v4 v5 (w64 ((w64 (Int.fdiv (IntKind.u64.wrap (w64 (v6 + v7))) (2 ^ (1 : Int).toNat))) + 1)) v7 e0 else slices_BinarySearchFunc__Club_string_club_clubAt_1_L3 g n v3 v4 v5 v6 (w64 (Int.fdiv (IntKind.u64.wrap (w64 (v6 + v7))) (2 ^ (1 : Int).toNat))) e0)))) else e0 v3 v4 v5 v6)
def slices_BinarySearchFunc__Club_string_club_clubAt_1_ (g : C_slices_BinarySearchFunc__Club_string_club_clubAt_1) (a1 : List G_Club) (a2 : List UInt8) {R : Type} (k0 : Int → Bool → Option R) : Option R :=
  (slices_BinarySearchFunc__Club_string_club_clubAt_1_L3 g g.N a1 a2 (a1.length : Int) 0 (a1.length : Int) (fun e12 e13 e14 e15 => (bif (decide (e15 < e14)) then (get_ e12 e15 fun x16 => (g.club_clubAt_1 x16 e13 (fun r17 => k0 e15 (r17 == 0)))) else k0 e15 false)))
noncomputable def I_slices_BinarySearchFunc__Club_string_club_clubAt_1 [Fuel] : C_slices_BinarySearchFunc__Club_string_club_clubAt_1 := ⟨NN, @club_clubAt_1 _⟩
noncomputable def slices_BinarySearchFunc__Club_string_club_clubAt_1 [Fuel] : T_slices_BinarySearchFunc__Club_string_club_clubAt_1 := @slices_BinarySearchFunc__Club_string_club_clubAt_1_ I_slices_BinarySearchFunc__Club_string_club_clubAt_1
def SS_slices_BinarySearchFunc__Club_string_club_clubAt_1 (g : T_slices_BinarySearchFunc__Club_string_club_clubAt_1) : Spec A := fun args => match args with | [.d (.sl 106 a1), .d (.str a2), .fn 150 []] => fun k => g a1 a2 (fun z0 z1 => k (.tup [.d (.int .i64 z0), .d (.bool z1)]) [.undef, .undef, .fn 150 []]) | _ => fun _ => none
def sh_slices_BinarySearchFunc__Club_string_club_clubAt_1_L3 : SSt := mkSh 49 0 [(0, .sl 106), (1, .str), (2, .fn 150 []), (8, .int .i64), (9, .int .i64), (10, .int .i64)] []
def LP_slices_BinarySearchFunc__Club_string_club_clubAt_1_L3 (g : C_slices_BinarySearchFunc__Club_string_club_clubAt_1) (n : Nat) : LPT A := fun ps => match ps with | [.d (.sl 106 p1), .d (.str p2), .d (.int .i64 p3), .d (.int .i64 p4), .d (.int .i64 p5)] => fun K => slices_BinarySearchFunc__Club_string_club_clubAt_1_L3 g n p1 p2 p3 p4 p5 (fun z0 z1 z2 z3 => K (.exit 0) (mkSt 49 0 [(0, .d (.sl 106 z0)), (1, .d (.str z1)), (2, .fn 150 []), (8, .d (.int .i64 z2)), (9, .d (.int .i64 z3))] [])) | _ => fun _ => none
noncomputable def code_149 : Code := (Tryz.f149.body).getD .skip
noncomputable def E_slices_BinarySearchFunc__Club_string_club_clubAt_1 (g : C_slices_BinarySearchFunc__Club_string_club_clubAt_1) : Env A := mkE [(150, SS_club_clubAt_1 g.club_clubAt_1)] [] [(3, ⟨[0, 1, 2, 8, 9, 10], [], [], []⟩)] [(3, ⟨[0, 1, 2, 8, 9], [], [], []⟩)] [(3, pieceOf sh_slices_BinarySearchFunc__Club_string_club_clubAt_1_L3 (LP_slices_BinarySearchFunc__Club_string_club_clubAt_1_L3 g g.N))] [] [] [] [] [2]
theorem ct_slices_BinarySearchFunc__Club_string_club_clubAt_1 [Fuel] : NatTab (E_slices_BinarySearchFunc__Club_string_club_clubAt_1 I_slices_BinarySearchFunc__Club_string_club_clubAt_1).C := ct_of (P := Tryz.prog) (T := T) (.cons ok_club_clubAt_1 .nil) (by kernel_rfl)
noncomputable def cb_slices_BinarySearchFunc__Club_string_club_clubAt_1_L3 : Code := sub [1, 1, 1, 0, 0, 0] code_149
theorem s_slices_BinarySearchFunc__Club_string_club_clubAt_1_L3 (g : C_slices_BinarySearchFunc__Club_string_club_clubAt_1) (n : Nat) : StepOk (E_slices_BinarySearchFunc__Club_string_club_clubAt_1 g) g.N cb_slices_BinarySearchFunc__Club_string_club_clubAt_1_L3 sh_slices_BinarySearchFunc__Club_string_club_clubAt_1_L3 (LP_slices_BinarySearchFunc__Club_string_club_clubAt_1_L3 g) n := by intro ps; unfold LP_slices_BinarySearchFunc__Club_string_club_clubAt_1_L3; split; exact .inr fun R K => (by kernel_rfl); exact .inl fun R K => rfl
theorem lf_slices_BinarySearchFunc__Club_string_club_clubAt_1_L3 [Fuel] : LoopFine (E_slices_BinarySearchFunc__Club_string_club_clubAt_1 I_slices_BinarySearchFunc__Club_string_club_clubAt_1) NN cb_slices_BinarySearchFunc__Club_string_club_clubAt_1_L3 := fine_loop sh_slices_BinarySearchFunc__Club_string_club_clubAt_1_L3 (LP_slices_BinarySearchFunc__Club_string_club_clubAt_1_L3 I_slices_BinarySearchFunc__Club_string_club_clubAt_1) (by kernel_rfl) ct_slices_BinarySearchFunc__Club_string_club_clubAt_1 (cuts0 (fun _ => rfl) (by kernel_rfl)) (fun ps R K => by unfold LP_slices_BinarySearchFunc__Club_string_club_clubAt_1_L3; split <;> (try unfold slices_BinarySearchFunc__Club_string_club_clubAt_1_L3) <;> rfl) (s_slices_BinarySearchFunc__Club_string_club_clubAt_1_L3 I_slices_BinarySearchFunc__Club_string_club_clubAt_1)
theorem sm_slices_BinarySearchFunc__Club_string_club_clubAt_1 (g : C_slices_BinarySearchFunc__Club_string_club_clubAt_1) : Same (SS_slices_BinarySearchFunc__Club_string_club_clubAt_1 (@slices_BinarySearchFunc__Club_string_club_clubAt_1_ g)) (abody (E_slices_BinarySearchFunc__Club_string_club_clubAt_1 g) Tryz.f149 code_149 0 [] [.asis, .asis] g.N) := by intro args; unfold SS_slices_BinarySearchFunc__Club_string_club_clubAt_1; split; exact .inr fun R k => (by kernel_rfl); exact .inl fun R k => rfl
theorem ok_slices_BinarySearchFunc__Club_string_club_clubAt_1 [Fuel] : Ok 149 (SS_slices_BinarySearchFunc__Club_string_club_clubAt_1 (@slices_BinarySearchFunc__Club_string_club_clubAt_1 _)) := okF_of std (.cons ok_club_clubAt_1 .nil) ⟨rfl, rfl, by kernel_rfl, rfl, rfl, rfl⟩ (sm_slices_BinarySearchFunc__Club_string_club_clubAt_1 I_slices_BinarySearchFunc__Club_string_club_clubAt_1) (cutsL (fun _ => rfl) (.cons lf_slices_BinarySearchFunc__Club_string_club_clubAt_1_L3 .nil) (by kernel_rfl)) Tryz.func149 (by kernel_rfl) (by kernel_rfl)
abbrev T_club_clubAt : Type 1 := List G_Club → List UInt8 → {R : Type} → (Int → Bool → Option R) → Option R
structure C_club_clubAt where
  N : Nat
  slices_BinarySearchFunc__Club_string_club_clubAt_1 : T_slices_BinarySearchFunc__Club_string_club_clubAt_1
def club_clubAt_ (g : C_club_clubAt) (a1 : List G_Club) (a2 : List UInt8) {R : Type} (k0 : Int → Bool → Option R) : Option R :=
  (g.slices_BinarySearchFunc__Club_string_club_clubAt_1 a1 a2 (fun r3 r4 => k0 r3 r4))
noncomputable def I_club_clubAt [Fuel] : C_club_clubAt := ⟨NN, @slices_BinarySearchFunc__Club_string_club_clubAt_1 _⟩
noncomputable def club_clubAt [Fuel] : T_club_clubAt := @club_clubAt_ I_club_clubAt
def SS_club_clubAt (g : T_club_clubAt) : Spec A := fun args => match args with | [.d (.sl 106 a1), .d (.str a2)] => fun k => g a1 a2 (fun z0 z1 => k (.tup [.d (.int .i64 z0), .d (.bool z1)]) [.undef, .undef]) | _ => fun _ => none
noncomputable def code_112 : Code := (Tryz.f112.body).getD .skip
noncomputable def E_club_clubAt (g : C_club_clubAt) : Env A := mkE [(149, SS_slices_BinarySearchFunc__Club_string_club_clubAt_1 g.slices_BinarySearchFunc__Club_string_club_clubAt_1)] [] [] [] [] [] [] [] [] []
theorem sm_club_clubAt (g : C_club_clubAt) : Same (SS_club_clubAt (@club_clubAt_ g)) (abody (E_club_clubAt g) Tryz.f112 code_112 0 [] [.asis, .asis] g.N) := by intro args; unfold SS_club_clubAt; split; exact .inr fun R k => (by kernel_rfl); exact .inl fun R k => rfl
theorem ok_club_clubAt [Fuel] : Ok 112 (SS_club_clubAt (@club_clubAt _)) := okF_of std (.cons ok_slices_BinarySearchFunc__Club_string_club_clubAt_1 .nil) ⟨rfl, rfl, by kernel_rfl, rfl, rfl, rfl⟩ (sm_club_clubAt I_club_clubAt) (cuts0 (fun _ => rfl) (by kernel_rfl)) Tryz.func112 (by kernel_rfl) (by kernel_rfl)
abbrev T_kit_Outside : Type 1 := Int → Int → Int → {R : Type} → (Bool → Option R) → Option R
def kit_Outside_ (g : Nat) (a1 a2 a3 : Int) {R : Type} (k0 : Bool → Option R) : Option R :=
  (bif (decide (a1 < a2)) then k0 true else k0 (decide (a1 > a3)))
noncomputable def kit_Outside [Fuel] : T_kit_Outside := @kit_Outside_ NN
def SS_kit_Outside (g : T_kit_Outside) : Spec A := fun args => match args with | [.d (.int .i64 a1), .d (.int .i64 a2), .d (.int .i64 a3)] => fun k => g a1 a2 a3 (fun z0 => k (.d (.bool z0)) [.undef, .undef, .undef]) | _ => fun _ => none
noncomputable def code_91 : Code := (Tryz.f91.body).getD .skip
noncomputable def E_kit_Outside (g : Nat) : Env A := mkE [] [] [] [] [] [] [] [] [] []
theorem sm_kit_Outside (g : Nat) : Same (SS_kit_Outside (@kit_Outside_ g)) (abody (E_kit_Outside g) Tryz.f91 code_91 0 [] [.asis] g) := by intro args; unfold SS_kit_Outside; split; exact .inr fun R k => (by kernel_rfl); exact .inl fun R k => rfl
theorem ok_kit_Outside [Fuel] : Ok 91 (SS_kit_Outside (@kit_Outside _)) := okF_of std .nil ⟨rfl, rfl, by kernel_rfl, rfl, rfl, rfl⟩ (sm_kit_Outside NN) (cuts0 (fun _ => rfl) (by kernel_rfl)) Tryz.func91 (by kernel_rfl) (by kernel_rfl)
abbrev T_club_isDay : Type 1 := Int → {R : Type} → (Bool → Option R) → Option R
structure C_club_isDay where
  N : Nat
  kit_Outside : T_kit_Outside
def club_isDay_ (g : C_club_isDay) (a1 : Int) {R : Type} (k0 : Bool → Option R) : Option R :=
  (g.kit_Outside a1 0 4000 (fun r2 => k0 (!r2)))
noncomputable def I_club_isDay [Fuel] : C_club_isDay := ⟨NN, @kit_Outside _⟩
noncomputable def club_isDay [Fuel] : T_club_isDay := @club_isDay_ I_club_isDay
def SS_club_isDay (g : T_club_isDay) : Spec A := fun args => match args with | [.d (.int .i64 a1)] => fun k => g a1 (fun z0 => k (.d (.bool z0)) [.undef]) | _ => fun _ => none
noncomputable def code_64 : Code := (Tryz.f64.body).getD .skip
noncomputable def E_club_isDay (g : C_club_isDay) : Env A := mkE [(91, SS_kit_Outside g.kit_Outside)] [] [] [] [] [] [] [] [] []
theorem sm_club_isDay (g : C_club_isDay) : Same (SS_club_isDay (@club_isDay_ g)) (abody (E_club_isDay g) Tryz.f64 code_64 0 [] [.asis] g.N) := by intro args; unfold SS_club_isDay; split; exact .inr fun R k => (by kernel_rfl); exact .inl fun R k => rfl
theorem ok_club_isDay [Fuel] : Ok 64 (SS_club_isDay (@club_isDay _)) := okF_of std (.cons ok_kit_Outside .nil) ⟨rfl, rfl, by kernel_rfl, rfl, rfl, rfl⟩ (sm_club_isDay I_club_isDay) (cuts0 (fun _ => rfl) (by kernel_rfl)) Tryz.func64 (by kernel_rfl) (by kernel_rfl)
abbrev T_club_isLocator : Type 1 := List UInt8 → {R : Type} → (Bool → Option R) → Option R
structure C_club_isLocator where
  N : Nat
  club_isSquare : T_club_isSquare
def club_isLocator_ (g : C_club_isLocator) (a1 : List UInt8) {R : Type} (k0 : Bool → Option R) : Option R :=
  (bif ((a1.length : Int) == 6) then (g.club_isSquare a1 (fun r2 => k0 r2)) else k0 false)
noncomputable def I_club_isLocator [Fuel] : C_club_isLocator := ⟨NN, @club_isSquare _⟩
noncomputable def club_isLocator [Fuel] : T_club_isLocator := @club_isLocator_ I_club_isLocator
def SS_club_isLocator (g : T_club_isLocator) : Spec A := fun args => match args with | [.d (.str a1)] => fun k => g a1 (fun z0 => k (.d (.bool z0)) [.undef]) | _ => fun _ => none
noncomputable def code_123 : Code := (Tryz.f123.body).getD .skip
noncomputable def E_club_isLocator (g : C_club_isLocator) : Env A := mkE [(121, SS_club_isSquare g.club_isSquare)] [] [] [] [] [] [] [] [] []
theorem sm_club_isLocator (g : C_club_isLocator) : Same (SS_club_isLocator (@club_isLocator_ g)) (abody (E_club_isLocator g) Tryz.f123 code_123 0 [] [.asis] g.N) := by intro args; unfold SS_club_isLocator; split; exact .inr fun R k => (by kernel_rfl); exact .inl fun R k => rfl
theorem ok_club_isLocator [Fuel] : Ok 123 (SS_club_isLocator (@club_isLocator _)) := okF_of std (.cons ok_club_isSquare .nil) ⟨rfl, rfl, by kernel_rfl, rfl, rfl, rfl⟩ (sm_club_isLocator I_club_isLocator) (cuts0 (fun _ => rfl) (by kernel_rfl)) Tryz.func123 (by kernel_rfl) (by kernel_rfl)
abbrev T_cmp_isNaN__int : Type 1 := Int → {R : Type} → (Bool → Option R) → Option R
def cmp_isNaN__int_ (g : Nat) (a1 : Int) {R : Type} (k0 : Bool → Option R) : Option R :=
  k0 (a1 != a1)
noncomputable def cmp_isNaN__int [Fuel] : T_cmp_isNaN__int := @cmp_isNaN__int_ NN
def SS_cmp_isNaN__int (g : T_cmp_isNaN__int) : Spec A := fun args => match args with | [.d (.int .i64 a1)] => fun k => g a1 (fun z0 => k (.d (.bool z0)) [.undef]) | _ => fun _ => none
noncomputable def code_130 : Code := (Tryz.f130.body).getD .skip
noncomputable def E_cmp_isNaN__int (g : Nat) : Env A := mkE [] [] [] [] [] [] [] [] [] []
theorem sm_cmp_isNaN__int (g : Nat) : Same (SS_cmp_isNaN__int (@cmp_isNaN__int_ g)) (abody (E_cmp_isNaN__int g) Tryz.f130 code_130 0 [] [.asis] g) := by intro args; unfold SS_cmp_isNaN__int; split; exact .inr fun R k => (by kernel_rfl); exact .inl fun R k => rfl
theorem ok_cmp_isNaN__int [Fuel] : Ok 130 (SS_cmp_isNaN__int (@cmp_isNaN__int _)) := okF_of std .nil ⟨rfl, rfl, by kernel_rfl, rfl, rfl, rfl⟩ (sm_cmp_isNaN__int NN) (cuts0 (fun _ => rfl) (by kernel_rfl)) Tryz.func130 (by kernel_rfl) (by kernel_rfl)
noncomputable def Ed_cmp_isNaN__int (g : Nat) : Env A := mkED [] [] [] [] [] [] [] [] [] []
theorem smd_cmp_isNaN__int (g : Nat) : Same (SS_cmp_isNaN__int (@cmp_isNaN__int_ g)) (abody (Ed_cmp_isNaN__int g) Tryz.f130 code_130 0 [] [.asis] g) := by intro args; unfold SS_cmp_isNaN__int; split; exact .inr fun R k => (by kernel_rfl); exact .inl fun R k => rfl
theorem okd_cmp_isNaN__int [Fuel] : OkD 130 (SS_cmp_isNaN__int (@cmp_isNaN__int _)) := okF_of stdD .nil ⟨rfl, rfl, by kernel_rfl, rfl, rfl, rfl⟩ (smd_cmp_isNaN__int NN) (cuts0 (fun _ => rfl) (by kernel_rfl)) Tryz.func130 (by kernel_rfl) (by kernel_rfl)
abbrev T_cmp_Compare__int : Type 1 := Int → Int → {R : Type} → (Int → Option R) → Option R
structure C_cmp_Compare__int where
  N : Nat
  cmp_isNaN__int : T_cmp_isNaN__int
def cmp_Compare__int_ (g : C_cmp_Compare__int) (a1 a2 : Int) {R : Type} (k0 : Int → Option R) : Option R :=
  (g.cmp_isNaN__int a1 (fun r3 => (g.cmp_isNaN__int a2 (fun r4 => (bif r3 then (bif r4 then k0 0 else k0 (-1)) else (bif r4 then k0 1 else (bif (decide (a1 < a2)) then k0 (-1) else (bif (decide (a1 > a2)) then k0 1 else k0 0))))))))
noncomputable def I_cmp_Compare__int [Fuel] : C_cmp_Compare__int := ⟨NN, @cmp_isNaN__int _⟩
noncomputable def cmp_Compare__int [Fuel] : T_cmp_Compare__int := @cmp_Compare__int_ I_cmp_Compare__int
def SS_cmp_Compare__int (g : T_cmp_Compare__int) : Spec A := fun args => match args with | [.d (.int .i64 a1), .d (.int .i64 a2)] => fun k => g a1 a2 (fun z0 => k (.d (.int .i64 z0)) [.undef, .undef]) | _ => fun _ => none
noncomputable def code_93 : Code := (Tryz.f93.body).getD .skip
noncomputable def E_cmp_Compare__int (g : C_cmp_Compare__int) : Env A := mkE [(130, SS_cmp_isNaN__int g.cmp_isNaN__int)] [] [] [] [] [] [] [] [] []
theorem sm_cmp_Compare__int (g : C_cmp_Compare__int) : Same (SS_cmp_Compare__int (@cmp_Compare__int_ g)) (abody (E_cmp_Compare__int g) Tryz.f93 code_93 0 [] [.asis] g.N) := by intro args; unfold SS_cmp_Compare__int; split; exact .inr fun R k => (by kernel_rfl); exact .inl fun R k => rfl
theorem ok_cmp_Compare__int [Fuel] : Ok 93 (SS_cmp_Compare__int (@cmp_Compare__int _)) := okF_of std (.cons ok_cmp_isNaN__int .nil) ⟨rfl, rfl, by kernel_rfl, rfl, rfl, rfl⟩ (sm_cmp_Compare__int I_cmp_Compare__int) (cuts0 (fun _ => rfl) (by kernel_rfl)) Tryz.func93 (by kernel_rfl) (by kernel_rfl)
noncomputable def Ed_cmp_Compare__int (g : C_cmp_Compare__int) : Env A := mkED [(130, SS_cmp_isNaN__int g.cmp_isNaN__int)] [] [] [] [] [] [] [] [] []
theorem smd_cmp_Compare__int (g : C_cmp_Compare__int) : Same (SS_cmp_Compare__int (@cmp_Compare__int_ g)) (abody (Ed_cmp_Compare__int g) Tryz.f93 code_93 0 [] [.asis] g.N) := by intro args; unfold SS_cmp_Compare__int; split; exact .inr fun R k => (by kernel_rfl); exact .inl fun R k => rfl
theorem okd_cmp_Compare__int [Fuel] : OkD 93 (SS_cmp_Compare__int (@cmp_Compare__int _)) := okF_of stdD (.cons okd_cmp_isNaN__int .nil) ⟨rfl, rfl, by kernel_rfl, rfl, rfl, rfl⟩ (smd_cmp_Compare__int I_cmp_Compare__int) (cuts0 (fun _ => rfl) (by kernel_rfl)) Tryz.func93 (by kernel_rfl) (by kernel_rfl)
abbrev T_cmp_Or__int : Type 1 := List Int → {R : Type} → (Int → Option R) → Option R
def cmp_Or__int_L3 (g : Nat) : Nat → Int → List Int → Int → Int → {R : Type} → (Int → Int → Option R) → (Int → Option R) → Option R
  | 0, _, _, _, _, _, _, _ => none
  | n + 1, v2, v3, v4, v5, _, e0, e1 => (bif (decide (v5 < v4)) then (get_ v3 v5 fun x7 => (bif (x7 != v2) then e0 x7 v2 else cmp_Or__int_L3 g n v2 v3 v4 (w64 (v5 + 1)) e0 e1)) else e1 v2)
def cmp_Or__int_ (g : Nat) (a1 : List Int) {R : Type} (k0 : Int → Option R) : Option R :=
  (cmp_Or__int_L3 g g 0 a1 (a1.length : Int) 0 (fun e8 e9 => k0 e8) (fun e10 => k0 e10))
noncomputable def cmp_Or__int [Fuel] : T_cmp_Or__int := @cmp_Or__int_ NN
def SS_cmp_Or__int (g : T_cmp_Or__int) : Spec A := fun args => match args with | [.d (.sl 3 a1)] => fun k => g a1 (fun z0 => k (.d (.int .i64 z0)) [.undef]) | _ => fun _ => none
def sh_cmp_Or__int_L3 : SSt := mkSh 18 0 [(3, .int .i64), (6, .sl 3), (7, .int .i64), (8, .int .i64)] []
def LP_cmp_Or__int_L3 (g : Nat) (n : Nat) : LPT A := fun ps => match ps with | [.d (.int .i64 p1), .d (.sl 3 p2), .d (.int .i64 p3), .d (.int .i64 p4)] => fun K => cmp_Or__int_L3 g n p1 p2 p3 p4 (fun z0 z1 => K .ret (mkSt 18 0 [(2, .d (.int .i64 z0)), (3, .d (.int .i64 z1))] [])) (fun z0 => K (.exit 0) (mkSt 18 0 [(3, .d (.int .i64 z0))] [])) | _ => fun _ => none
noncomputable def code_92 : Code := (Tryz.f92.body).getD .skip
noncomputable def E_cmp_Or__int (g : Nat) : Env A := mkE [] [] [(3, ⟨[3, 6, 7, 8], [], [], []⟩)] [(3, ⟨[2, 3], [], [], []⟩)] [(3, pieceOf sh_cmp_Or__int_L3 (LP_cmp_Or__int_L3 g g))] [] [] [] [] []
theorem ct_cmp_Or__int [Fuel] : NatTab (E_cmp_Or__int NN).C := ct_of (P := Tryz.prog) (T := T) .nil (by kernel_rfl)
noncomputable def cb_cmp_Or__int_L3 : Code := sub [1, 1, 0, 1, 0, 0] code_92
theorem s_cmp_Or__int_L3 (g : Nat) (n : Nat) : StepOk (E_cmp_Or__int g) g cb_cmp_Or__int_L3 sh_cmp_Or__int_L3 (LP_cmp_Or__int_L3 g) n := by intro ps; unfold LP_cmp_Or__int_L3; split; exact .inr fun R K => (by kernel_rfl); exact .inl fun R K => rfl
theorem lf_cmp_Or__int_L3 [Fuel] : LoopFine (E_cmp_Or__int NN) NN cb_cmp_Or__int_L3 := fine_loop sh_cmp_Or__int_L3 (LP_cmp_Or__int_L3 NN) (by kernel_rfl) ct_cmp_Or__int (cuts0 (fun _ => rfl) (by kernel_rfl)) (fun ps R K => by unfold LP_cmp_Or__int_L3; split <;> (try unfold cmp_Or__int_L3) <;> rfl) (s_cmp_Or__int_L3 NN)
theorem sm_cmp_Or__int (g : Nat) : Same (SS_cmp_Or__int (@cmp_Or__int_ g)) (abody (E_cmp_Or__int g) Tryz.f92 code_92 0 [] [.asis] g) := by intro args; unfold SS_cmp_Or__int; split; exact .inr fun R k => (by kernel_rfl); exact .inl fun R k => rfl
theorem ok_cmp_Or__int [Fuel] : Ok 92 (SS_cmp_Or__int (@cmp_Or__int _)) := okF_of std .nil ⟨rfl, rfl, by kernel_rfl, rfl, rfl, rfl⟩ (sm_cmp_Or__int NN) (cutsL (fun _ => rfl) (.cons lf_cmp_Or__int_L3 .nil) (by kernel_rfl)) Tryz.func92 (by kernel_rfl) (by kernel_rfl)
noncomputable def Ed_cmp_Or__int (g : Nat) : Env A := mkED [] [] [(3, ⟨[3, 6, 7, 8], [], [], []⟩)] [(3, ⟨[2, 3], [], [], []⟩)] [(3, pieceOf sh_cmp_Or__int_L3 (LP_cmp_Or__int_L3 g g))] [] [] [] [] []
theorem ctd_cmp_Or__int [Fuel] : NatTab (Ed_cmp_Or__int NN).C := ct_of (P := Tryz.prog) (T := TD) .nil (by kernel_rfl)
theorem sd_cmp_Or__int_L3 (g : Nat) (n : Nat) : StepOk (Ed_cmp_Or__int g) g cb_cmp_Or__int_L3 sh_cmp_Or__int_L3 (LP_cmp_Or__int_L3 g) n := by intro ps; unfold LP_cmp_Or__int_L3; split; exact .inr fun R K => (by kernel_rfl); exact .inl fun R K => rfl
theorem lfd_cmp_Or__int_L3 [Fuel] : LoopFine (Ed_cmp_Or__int NN) NN cb_cmp_Or__int_L3 := fine_loop sh_cmp_Or__int_L3 (LP_cmp_Or__int_L3 NN) (by kernel_rfl) ctd_cmp_Or__int (cuts0 (fun _ => rfl) (by kernel_rfl)) (fun ps R K => by unfold LP_cmp_Or__int_L3; split <;> (try unfold cmp_Or__int_L3) <;> rfl) (sd_cmp_Or__int_L3 NN)
theorem smd_cmp_Or__int (g : Nat) : Same (SS_cmp_Or__int (@cmp_Or__int_ g)) (abody (Ed_cmp_Or__int g) Tryz.f92 code_92 0 [] [.asis] g) := by intro args; unfold SS_cmp_Or__int; split; exact .inr fun R k => (by kernel_rfl); exact .inl fun R k => rfl
theorem okd_cmp_Or__int [Fuel] : OkD 92 (SS_cmp_Or__int (@cmp_Or__int _)) := okF_of stdD .nil ⟨rfl, rfl, by kernel_rfl, rfl, rfl, rfl⟩ (smd_cmp_Or__int NN) (cutsL (fun _ => rfl) (.cons lfd_cmp_Or__int_L3 .nil) (by kernel_rfl)) Tryz.func92 (by kernel_rfl) (by kernel_rfl)
abbrev T_club_memberFault : Type 1 := List G_Club → List G_Member → Int → {R : Type} → (Int → Option R) → Option R
structure C_club_memberFault where
  N : Nat
  club_isDay : T_club_isDay
  strings_Compare : T_strings_Compare
  cmp_Or__int : T_cmp_Or__int
  cmp_Compare__int : T_cmp_Compare__int
  call_Parts : T_call_Parts
  club_clubAt : T_club_clubAt
  club_isLocator : T_club_isLocator
def club_memberFault_ (g : C_club_memberFault) (a1 : List G_Club) (a2 : List G_Member) (a3 : Int) {R : Type} (k0 : Int → Option R) : Option R :=
  (get_ a2 a3 fun x4 => (g.call_Parts x4.f_Call (fun r5 r6 => (bif (!r6) then k0 3 else (bif (!(r5.f_Base == x4.f_Call)) then k0 3 else (g.club_clubAt a1 x4.f_Club (fun r7 r8 => (bif (!(x4.f_Club == [])) then (bif (!r8) then k0 8 else (g.club_isDay x4.f_Day (fun r9 => (bif (!r9) then k0 1 else (g.club_isLocator x4.f_Locator (fun r10 => (bif (!r10) then k0 3 else (bif (decide (a3 > 0)) then (get_ a2 (w64 (a3 - 1)) fun x11 => (get_ a2 (w64 (a3 - 1)) fun x12 => (g.strings_Compare x11.f_Call x4.f_Call (fun r13 => (g.cmp_Compare__int x12.f_Day x4.f_Day (fun r14 => (g.cmp_Or__int [r13, r14] (fun r15 => (bif (decide (r15 ≥ 0)) then k0 7 else k0 0))))))))) else k0 0)))))))) else (g.club_isDay x4.f_Day (fun r16 => (bif (!r16) then k0 1 else (g.club_isLocator x4.f_Locator (fun r17 => (bif (!r17) then k0 3 else (bif (decide (a3 > 0)) then (get_ a2 (w64 (a3 - 1)) fun x18 => (get_ a2 (w64 (a3 - 1)) fun x19 => (g.strings_Compare x18.f_Call x4.f_Call (fun r20 => (g.cmp_Compare__int x19.f_Day x4.f_Day (fun r21 => (g.cmp_Or__int [r20, r21] (fun r22 => (bif (decide (r22 ≥ 0)) then k0 7 else k0 0))))))))) else k0 0)))))))))))))))
noncomputable def I_club_memberFault [Fuel] : C_club_memberFault := ⟨NN, @club_isDay _, @strings_Compare _, @cmp_Or__int _, @cmp_Compare__int _, @call_Parts _, @club_clubAt _, @club_isLocator _⟩
noncomputable def club_memberFault [Fuel] : T_club_memberFault := @club_memberFault_ I_club_memberFault
def SS_club_memberFault (g : T_club_memberFault) : Spec A := fun args => match args with | [.d (.sl 106 a1), .d (.sl 109 a2), .d (.int .i64 a3)] => fun k => g a1 a2 a3 (fun z0 => k (.d (.int .i64 z0)) [.undef, .undef, .undef]) | _ => fun _ => none
noncomputable def code_82 : Code := (Tryz.f82.body).getD .skip
noncomputable def E_club_memberFault (g : C_club_memberFault) : Env A := mkE [(64, SS_club_isDay g.club_isDay), (90, SS_strings_Compare g.strings_Compare), (92, SS_cmp_Or__int g.cmp_Or__int), (93, SS_cmp_Compare__int g.cmp_Compare__int), (108, SS_call_Parts g.call_Parts), (112, SS_club_clubAt g.club_clubAt), (123, SS_club_isLocator g.club_isLocator)] [(7, [0]), (8, [1]), (77, [2])] [] [] [] [] [] [] [] []
theorem sm_club_memberFault (g : C_club_memberFault) : Same (SS_club_memberFault (@club_memberFault_ g)) (abody (E_club_memberFault g) Tryz.f82 code_82 3 [] [.asis] g.N) := by intro args; unfold SS_club_memberFault; split; exact .inr fun R k => (by kernel_rfl); exact .inl fun R k => rfl
theorem ok_club_memberFault [Fuel] : Ok 82 (SS_club_memberFault (@club_memberFault _)) := okF_of std (.cons ok_club_isDay (.cons ok_strings_Compare (.cons ok_cmp_Or__int (.cons ok_cmp_Compare__int (.cons ok_call_Parts (.cons ok_club_clubAt (.cons ok_club_isLocator .nil))))))) ⟨rfl, rfl, by kernel_rfl, rfl, rfl, rfl⟩ (sm_club_memberFault I_club_memberFault) (cuts0 (fun _ => rfl) (by kernel_rfl)) Tryz.func82 (by kernel_rfl) (by kernel_rfl)
abbrev T_club_CheckMembers : Type 1 := List G_Club → List G_Member → {R : Type} → (Int → Option R) → Option R
structure C_club_CheckMembers where
  N : Nat
  club_CheckClubs : T_club_CheckClubs
  club_memberFault : T_club_memberFault
def club_CheckMembers_L7 (g : C_club_CheckMembers) : Nat → List G_Club → List G_Member → Int → Int → {R : Type} → (Int → Option R) → Option R → Option R
  | 0, _, _, _, _, _, _, _ => none
  | n + 1, v4, v5, v6, v7, _, e0, e1 => (bif (decide (v7 < v6)) then (g.club_memberFault v4 v5 v7 (fun r9 => (bif (r9 != 0) then e0 r9 else club_CheckMembers_L7 g n v4 v5 v6 (w64 (v7 + 1)) e0 e1))) else e1)
def club_CheckMembers_ (g : C_club_CheckMembers) (a1 : List G_Club) (a2 : List G_Member) {R : Type} (k0 : Int → Option R) : Option R :=
  (g.club_CheckClubs a1 (fun r3 => (bif (r3 != 0) then k0 r3 else (bif (decide ((a2.length : Int) > 1000)) then k0 2 else (club_CheckMembers_L7 g g.N a1 a2 (a2.length : Int) 0 (fun e10 => k0 e10) (k0 0))))))
noncomputable def I_club_CheckMembers [Fuel] : C_club_CheckMembers := ⟨NN, @club_CheckClubs _, @club_memberFault _⟩
noncomputable def club_CheckMembers [Fuel] : T_club_CheckMembers := @club_CheckMembers_ I_club_CheckMembers
def SS_club_CheckMembers (g : T_club_CheckMembers) : Spec A := fun args => match args with | [.d (.sl 106 a1), .d (.sl 109 a2)] => fun k => g a1 a2 (fun z0 => k (.d (.int .i64 z0)) [.undef, .undef]) | _ => fun _ => none
def sh_club_CheckMembers_L7 : SSt := mkSh 29 0 [(0, .sl 106), (1, .sl 109), (17, .int .i64), (18, .int .i64)] []
def LP_club_CheckMembers_L7 (g : C_club_CheckMembers) (n : Nat) : LPT A := fun ps => match ps with | [.d (.sl 106 p1), .d (.sl 109 p2), .d (.int .i64 p3), .d (.int .i64 p4)] => fun K => club_CheckMembers_L7 g n p1 p2 p3 p4 (fun z0 => K .ret (mkSt 29 0 [(4, .d (.int .i64 z0))] [])) (K (.exit 0) (mkSt 29 0 [] [])) | _ => fun _ => none
noncomputable def code_34 : Code := (Tryz.f34.body).getD .skip
noncomputable def E_club_CheckMembers (g : C_club_CheckMembers) : Env A := mkE [(32, SS_club_CheckClubs g.club_CheckClubs), (82, SS_club_memberFault g.club_memberFault)] [] [(7, ⟨[0, 1, 17, 18], [], [], []⟩)] [(7, ⟨[4], [], [], []⟩)] [(7, pieceOf sh_club_CheckMembers_L7 (LP_club_CheckMembers_L7 g g.N))] [] [] [] [] []
theorem ct_club_CheckMembers [Fuel] : NatTab (E_club_CheckMembers I_club_CheckMembers).C := ct_of (P := Tryz.prog) (T := T) (.cons ok_club_CheckClubs (.cons ok_club_memberFault .nil)) (by kernel_rfl)
noncomputable def cb_club_CheckMembers_L7 : Code := sub [1, 1, 1, 0, 1, 0, 0] code_34
theorem s_club_CheckMembers_L7 (g : C_club_CheckMembers) (n : Nat) : StepOk (E_club_CheckMembers g) g.N cb_club_CheckMembers_L7 sh_club_CheckMembers_L7 (LP_club_CheckMembers_L7 g) n := by intro ps; unfold LP_club_CheckMembers_L7; split; exact .inr fun R K => (by kernel_rfl); exact .inl fun R K => rfl
theorem lf_club_CheckMembers_L7 [Fuel] : LoopFine (E_club_CheckMembers I_club_CheckMembers) NN cb_club_CheckMembers_L7 := fine_loop sh_club_CheckMembers_L7 (LP_club_CheckMembers_L7 I_club_CheckMembers) (by kernel_rfl) ct_club_CheckMembers (cuts0 (fun _ => rfl) (by kernel_rfl)) (fun ps R K => by unfold LP_club_CheckMembers_L7; split <;> (try unfold club_CheckMembers_L7) <;> rfl) (s_club_CheckMembers_L7 I_club_CheckMembers)
theorem sm_club_CheckMembers (g : C_club_CheckMembers) : Same (SS_club_CheckMembers (@club_CheckMembers_ g)) (abody (E_club_CheckMembers g) Tryz.f34 code_34 0 [] [.asis] g.N) := by intro args; unfold SS_club_CheckMembers; split; exact .inr fun R k => (by kernel_rfl); exact .inl fun R k => rfl
theorem ok_club_CheckMembers [Fuel] : Ok 34 (SS_club_CheckMembers (@club_CheckMembers _)) := okF_of std (.cons ok_club_CheckClubs (.cons ok_club_memberFault .nil)) ⟨rfl, rfl, by kernel_rfl, rfl, rfl, rfl⟩ (sm_club_CheckMembers I_club_CheckMembers) (cutsL (fun _ => rfl) (.cons lf_club_CheckMembers_L7 .nil) (by kernel_rfl)) Tryz.func34 (by kernel_rfl) (by kernel_rfl)
abbrev T_call_Is : Type 1 := List UInt8 → {R : Type} → (Bool → Option R) → Option R
structure C_call_Is where
  N : Nat
  call_Parts : T_call_Parts
def call_Is_ (g : C_call_Is) (a1 : List UInt8) {R : Type} (k0 : Bool → Option R) : Option R :=
  (g.call_Parts a1 (fun r2 r3 => k0 r3))
noncomputable def I_call_Is [Fuel] : C_call_Is := ⟨NN, @call_Parts _⟩
noncomputable def call_Is [Fuel] : T_call_Is := @call_Is_ I_call_Is
def SS_call_Is (g : T_call_Is) : Spec A := fun args => match args with | [.d (.str a1)] => fun k => g a1 (fun z0 => k (.d (.bool z0)) [.undef]) | _ => fun _ => none
noncomputable def code_63 : Code := (Tryz.f63.body).getD .skip
noncomputable def E_call_Is (g : C_call_Is) : Env A := mkE [(108, SS_call_Parts g.call_Parts)] [(3, [0])] [] [] [] [] [] [] [] []
theorem sm_call_Is (g : C_call_Is) : Same (SS_call_Is (@call_Is_ g)) (abody (E_call_Is g) Tryz.f63 code_63 1 [] [.asis] g.N) := by intro args; unfold SS_call_Is; split; exact .inr fun R k => (by kernel_rfl); exact .inl fun R k => rfl
theorem ok_call_Is [Fuel] : Ok 63 (SS_call_Is (@call_Is _)) := okF_of std (.cons ok_call_Parts .nil) ⟨rfl, rfl, by kernel_rfl, rfl, rfl, rfl⟩ (sm_call_Is I_call_Is) (cuts0 (fun _ => rfl) (by kernel_rfl)) Tryz.func63 (by kernel_rfl) (by kernel_rfl)
abbrev T_club_last : Type 1 := List G_Member → Int → {R : Type} → (List (List UInt8 × G_Member) → Option R) → Option R
def club_last_L3 (g : Nat) : Nat → Int → List G_Member → Int → Int → List (List UInt8 × G_Member) → {R : Type} → (List (List UInt8 × G_Member) → Option R) → Option R
  | 0, _, _, _, _, _, _, _ => none
  | n + 1, v3, v4, v5, v6, v7, _, e0 => (bif (decide (v6 < v5)) then (get_ v4 v6 fun x9 => (bif (decide (x9.f_Day ≤ v3)) then club_last_L3 g n v3 v4 v5 (w64 (v6 + 1)) (mset_string_Member x9.f_Call x9 v7) e0 else club_last_L3 g n v3 v4 v5 (w64 (v6 + 1)) v7 e0)) else e0 v7)
def club_last_ (g : Nat) (a1 : List G_Member) (a2 : Int) {R : Type} (k0 : List (List UInt8 × G_Member) → Option R) : Option R :=
  (club_last_L3 g g a2 a1 (a1.length : Int) 0 [] (fun e10 => k0 e10))
noncomputable def club_last [Fuel] : T_club_last := @club_last_ NN
def SS_club_last (g : T_club_last) : Spec A := fun args => match args with | [.d (.sl 109 a1), .d (.int .i64 a2)] => fun k => g a1 a2 (fun z0 => k (.mp 9 109 z0) [.undef, .undef]) | _ => fun _ => none
def sh_club_last_L3 : SSt := mkSh 25 2 [(1, .int .i64), (5, .mp 0), (9, .sl 109), (10, .int .i64), (11, .int .i64)] [(0, .mp 9 109)]
def LP_club_last_L3 (g : Nat) (n : Nat) : LPT A := fun ps => match ps with | [.d (.int .i64 p1), .d (.sl 109 p2), .d (.int .i64 p3), .d (.int .i64 p4), .mp 9 109 p5] => fun K => club_last_L3 g n p1 p2 p3 p4 p5 (fun z0 => K (.exit 0) (mkSt 25 2 [(5, .mp 0)] [(0, some (.mp 9 109 z0))])) | _ => fun _ => none
noncomputable def code_66 : Code := (Tryz.f66.body).getD .skip
noncomputable def E_club_last (g : Nat) : Env A := mkE [] [(7, [1]), (8, [0])] [(3, ⟨[1, 5, 9, 10, 11], [], [0], []⟩)] [(3, ⟨[5], [], [0], []⟩)] [(3, pieceOf sh_club_last_L3 (LP_club_last_L3 g g))] [] [] [] [] []
theorem ct_club_last [Fuel] : NatTab (E_club_last NN).C := ct_of (P := Tryz.prog) (T := T) .nil (by kernel_rfl)
noncomputable def cb_club_last_L3 : Code := sub [1, 1, 0, 1, 0, 0] code_66
theorem s_club_last_L3 (g : Nat) (n : Nat) : StepOk (E_club_last g) g cb_club_last_L3 sh_club_last_L3 (LP_club_last_L3 g) n := by intro ps; unfold LP_club_last_L3; split; exact .inr fun R K => (by kernel_rfl); exact .inl fun R K => rfl
theorem lf_club_last_L3 [Fuel] : LoopFine (E_club_last NN) NN cb_club_last_L3 := fine_loop sh_club_last_L3 (LP_club_last_L3 NN) (by kernel_rfl) ct_club_last (cuts0 (fun _ => rfl) (by kernel_rfl)) (fun ps R K => by unfold LP_club_last_L3; split <;> (try unfold club_last_L3) <;> rfl) (s_club_last_L3 NN)
theorem sm_club_last (g : Nat) : Same (SS_club_last (@club_last_ g)) (abody (E_club_last g) Tryz.f66 code_66 2 [] [.asis] g) := by intro args; unfold SS_club_last; split; exact .inr fun R k => (by kernel_rfl); exact .inl fun R k => rfl
theorem ok_club_last [Fuel] : Ok 66 (SS_club_last (@club_last _)) := okF_of std .nil ⟨rfl, rfl, by kernel_rfl, rfl, rfl, rfl⟩ (sm_club_last NN) (cutsL (fun _ => rfl) (.cons lf_club_last_L3 .nil) (by kernel_rfl)) Tryz.func66 (by kernel_rfl) (by kernel_rfl)
abbrev T_call_BaseOf : Type 1 := List UInt8 → {R : Type} → (List UInt8 → Option R) → Option R
structure C_call_BaseOf where
  N : Nat
  call_Parts : T_call_Parts
def call_BaseOf_ (g : C_call_BaseOf) (a1 : List UInt8) {R : Type} (k0 : List UInt8 → Option R) : Option R :=
  (g.call_Parts a1 (fun r2 r3 => k0 r2.f_Base))
noncomputable def I_call_BaseOf [Fuel] : C_call_BaseOf := ⟨NN, @call_Parts _⟩
noncomputable def call_BaseOf [Fuel] : T_call_BaseOf := @call_BaseOf_ I_call_BaseOf
def SS_call_BaseOf (g : T_call_BaseOf) : Spec A := fun args => match args with | [.d (.str a1)] => fun k => g a1 (fun z0 => k (.d (.str z0)) [.undef]) | _ => fun _ => none
noncomputable def code_67 : Code := (Tryz.f67.body).getD .skip
noncomputable def E_call_BaseOf (g : C_call_BaseOf) : Env A := mkE [(108, SS_call_Parts g.call_Parts)] [(3, [0])] [] [] [] [] [] [] [] []
theorem sm_call_BaseOf (g : C_call_BaseOf) : Same (SS_call_BaseOf (@call_BaseOf_ g)) (abody (E_call_BaseOf g) Tryz.f67 code_67 1 [] [.asis] g.N) := by intro args; unfold SS_call_BaseOf; split; exact .inr fun R k => (by kernel_rfl); exact .inl fun R k => rfl
theorem ok_call_BaseOf [Fuel] : Ok 67 (SS_call_BaseOf (@call_BaseOf _)) := okF_of std (.cons ok_call_Parts .nil) ⟨rfl, rfl, by kernel_rfl, rfl, rfl, rfl⟩ (sm_call_BaseOf I_call_BaseOf) (cuts0 (fun _ => rfl) (by kernel_rfl)) Tryz.func67 (by kernel_rfl) (by kernel_rfl)
abbrev T_stringslite_HasPrefix : Type 1 := List UInt8 → List UInt8 → {R : Type} → (Bool → Option R) → Option R
def stringslite_HasPrefix_ (g : Nat) (a1 a2 : List UInt8) {R : Type} (k0 : Bool → Option R) : Option R :=
  (bif (decide ((a1.length : Int) ≥ (a2.length : Int))) then (bif (decide (0 ≤ (a2.length : Int)) && decide ((a2.length : Int) ≤ (a1.length : Int))) then k0 ((a1.take ((a2.length : Int) : Int).toNat) == a2) else none) else k0 false)
noncomputable def stringslite_HasPrefix [Fuel] : T_stringslite_HasPrefix := @stringslite_HasPrefix_ NN
def SS_stringslite_HasPrefix (g : T_stringslite_HasPrefix) : Spec A := fun args => match args with | [.d (.str a1), .d (.str a2)] => fun k => g a1 a2 (fun z0 => k (.d (.bool z0)) [.undef, .undef]) | _ => fun _ => none
noncomputable def code_152 : Code := (Tryz.f152.body).getD .skip
noncomputable def E_stringslite_HasPrefix (g : Nat) : Env A := mkE [] [] [] [] [] [] [] [] [] []
theorem sm_stringslite_HasPrefix (g : Nat) : Same (SS_stringslite_HasPrefix (@stringslite_HasPrefix_ g)) (abody (E_stringslite_HasPrefix g) Tryz.f152 code_152 0 [] [.asis] g) := by intro args; unfold SS_stringslite_HasPrefix; split; exact .inr fun R k => (by kernel_rfl); exact .inl fun R k => rfl
theorem ok_stringslite_HasPrefix [Fuel] : Ok 152 (SS_stringslite_HasPrefix (@stringslite_HasPrefix _)) := okF_of std .nil ⟨rfl, rfl, by kernel_rfl, rfl, rfl, rfl⟩ (sm_stringslite_HasPrefix NN) (cuts0 (fun _ => rfl) (by kernel_rfl)) Tryz.func152 (by kernel_rfl) (by kernel_rfl)
abbrev T_strings_HasPrefix : Type 1 := List UInt8 → List UInt8 → {R : Type} → (Bool → Option R) → Option R
structure C_strings_HasPrefix where
  N : Nat
  stringslite_HasPrefix : T_stringslite_HasPrefix
def strings_HasPrefix_ (g : C_strings_HasPrefix) (a1 a2 : List UInt8) {R : Type} (k0 : Bool → Option R) : Option R :=
  (g.stringslite_HasPrefix a1 a2 (fun r3 => k0 r3))
noncomputable def I_strings_HasPrefix [Fuel] : C_strings_HasPrefix := ⟨NN, @stringslite_HasPrefix _⟩
noncomputable def strings_HasPrefix [Fuel] : T_strings_HasPrefix := @strings_HasPrefix_ I_strings_HasPrefix
def SS_strings_HasPrefix (g : T_strings_HasPrefix) : Spec A := fun args => match args with | [.d (.str a1), .d (.str a2)] => fun k => g a1 a2 (fun z0 => k (.d (.bool z0)) [.undef, .undef]) | _ => fun _ => none
noncomputable def code_115 : Code := (Tryz.f115.body).getD .skip
noncomputable def E_strings_HasPrefix (g : C_strings_HasPrefix) : Env A := mkE [(152, SS_stringslite_HasPrefix g.stringslite_HasPrefix)] [] [] [] [] [] [] [] [] []
theorem sm_strings_HasPrefix (g : C_strings_HasPrefix) : Same (SS_strings_HasPrefix (@strings_HasPrefix_ g)) (abody (E_strings_HasPrefix g) Tryz.f115 code_115 0 [] [.asis] g.N) := by intro args; unfold SS_strings_HasPrefix; split; exact .inr fun R k => (by kernel_rfl); exact .inl fun R k => rfl
theorem ok_strings_HasPrefix [Fuel] : Ok 115 (SS_strings_HasPrefix (@strings_HasPrefix _)) := okF_of std (.cons ok_stringslite_HasPrefix .nil) ⟨rfl, rfl, by kernel_rfl, rfl, rfl, rfl⟩ (sm_strings_HasPrefix I_strings_HasPrefix) (cuts0 (fun _ => rfl) (by kernel_rfl)) Tryz.func115 (by kernel_rfl) (by kernel_rfl)
end Go.Am
