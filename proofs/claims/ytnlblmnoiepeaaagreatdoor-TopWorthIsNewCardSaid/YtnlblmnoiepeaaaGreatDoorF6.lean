/- The functions of the program as Lean functions, each shown to be what the code computes, part 6. No condition: lemmas for the claim. -/
import Derived.Test.YtnlblmnoiepeaaaGreatDoorF0
import Derived.Test.YtnlblmnoiepeaaaGreatDoorFSh
import Derived.Test.YtnlblmnoiepeaaaGreatDoorF1
import Derived.Test.YtnlblmnoiepeaaaGreatDoorF2
import Derived.Test.YtnlblmnoiepeaaaGreatDoorF3
import Derived.Test.YtnlblmnoiepeaaaGreatDoorF4
import Derived.Test.YtnlblmnoiepeaaaGreatDoorF5
set_option linter.unusedVariables false
set_option maxRecDepth 100000
namespace Go.Am
open Go Go.Proofs
abbrev T_z54z : Type 1 := List UInt8 → {R : Type} → (Int → Bool → Option R) → Option R
structure C_z54z where
 N : Nat
 z92z : T_z92z
 z96z : T_z96z
def z54z_L2 (g : C_z54z) : Nat → List UInt8 → Int → Int → Int → {R : Type} → (Int → Bool → Option R) → (Int → Option R) → Option R
 | 0, _, _, _, _, _, _, _ => none
 | n + 1, v2, v3, v4, v5, _, e0, e1 => (bif (decide (v5 < v4)) then (get_ v2 v5 fun x10 => (g.z96z (x10.toNat : Int) (fun r11 => (bif r11 then z54z_L2 g n v2 (w64 (v3 + 1)) v4 (w64 (v5 + 1)) e0 e1 else (get_ v2 v5 fun x12 => (g.z92z (x12.toNat : Int) (fun r13 => (bif (!r13) then e0 0 false else z54z_L2 g n v2 v3 v4 (w64 (v5 + 1)) e0 e1)))))))) else e1 v3)
def z54z_ (g : C_z54z) (a1 : List UInt8) {R : Type} (k0 : Int → Bool → Option R) : Option R :=
 (z54z_L2 g g.N a1 0 (a1.length : Int) 0 (fun e14 e15 => k0 e14 e15) (fun e16 => k0 e16 true))
noncomputable def I_z54z [Fuel] : C_z54z := ⟨NN, @z92z _, @z96z _⟩
noncomputable def z54z [Fuel] : T_z54z := @z54z_ I_z54z
def SS_z54z (g : T_z54z) : Spec A := fun args => match args with | [.d (.str a1)] => fun k => g a1 (fun z0 z1 => k (.tup [.d (.int .i64 z0), .d (.bool z1)]) [.undef]) | _ => fun _ => none
def sh_z54z_L2 : SSt := mkSh 25 0 [(0, .str), (2, .int .i64), (6, .int .i64), (7, .int .i64)] []
def LP_z54z_L2 (g : C_z54z) (n : Nat) : LPT A := fun ps => match ps with | [.d (.str p1), .d (.int .i64 p2), .d (.int .i64 p3), .d (.int .i64 p4)] => fun K => z54z_L2 g n p1 p2 p3 p4 (fun z0 z1 => K .ret (mkSt 25 0 [(2, .d (.int .i64 z0)), (3, .d (.bool z1))] [])) (fun z0 => K (.exit 0) (mkSt 25 0 [(2, .d (.int .i64 z0))] [])) | _ => fun _ => none
noncomputable def code_166 : Code := (Tryz.f166.body).getD .skip
noncomputable def E_z54z (g : C_z54z) : Env A := mkE [(167, SS_z92z g.z92z), (199, SS_z96z g.z96z)] [] [(2, ⟨[0, 2, 6, 7], [], [], [], [], [], []⟩)] [(2, ⟨[2, 3], [], [], [], [], [], []⟩)] [(2, pieceOf sh_z54z_L2 (LP_z54z_L2 g g.N))] [] [] [] [] []
theorem ct_z54z [Fuel] : NatTab (E_z54z I_z54z).C := ct_of (P := Tryz.prog) (T := T) (.cons ok_z92z (.cons ok_z96z .nil)) (by kernel_rfl)
noncomputable def cb_z54z_L2 : Code := sub [1, 0, 1, 0, 0] code_166
theorem s_z54z_L2 (g : C_z54z) (n : Nat) : StepOk (E_z54z g) g.N cb_z54z_L2 sh_z54z_L2 (LP_z54z_L2 g) n := by intro ps; unfold LP_z54z_L2; split; exact .inr fun R K => (by kernel_rfl); exact .inl fun R K => rfl
theorem lf_z54z_L2 [Fuel] : LoopFine (E_z54z I_z54z) NN cb_z54z_L2 := fine_loop sh_z54z_L2 (LP_z54z_L2 I_z54z) (by kernel_rfl) ct_z54z (cuts0 (fun _ => rfl) (by kernel_rfl)) (fun ps R K => by unfold LP_z54z_L2; split <;> (try unfold z54z_L2) <;> rfl) (s_z54z_L2 I_z54z)
theorem sm_z54z (g : C_z54z) : Same (SS_z54z (@z54z_ g)) (abody (E_z54z g) Tryz.f166 code_166 0 [] [.asis, .asis] g.N) := by intro args; unfold SS_z54z; split; exact .inr fun R k => (by kernel_rfl); exact .inl fun R k => rfl
theorem ok_z54z [Fuel] : Ok 166 (SS_z54z (@z54z _)) := okF_of std (.cons ok_z92z (.cons ok_z96z .nil)) ⟨rfl, rfl, by kernel_rfl, rfl, rfl, rfl⟩ (sm_z54z I_z54z) (cutsL (fun _ => rfl) (.cons lf_z54z_L2 .nil) (by kernel_rfl)) Tryz.func166 (by kernel_rfl) (by kernel_rfl)
abbrev T_call_split : Type 1 := List UInt8 → {R : Type} → (Int → Bool → Option R) → Option R
structure C_call_split where
 N : Nat
 z54z : T_z54z
 z18z : T_z18z
def call_split_ (g : C_call_split) (a1 : List UInt8) {R : Type} (k0 : Int → Bool → Option R) : Option R :=
 (g.z54z a1 (fun r2 r3 => (bif (!r3) then k0 0 false else (bif (decide ((a1.length : Int) > 10)) then k0 0 false else (g.z18z a1 [48, 49, 50, 51, 52, 53, 54, 55, 56, 57] (fun r4 => (bif (decide (r4 < 1)) then k0 0 false else (bif (decide (r4 > 3)) then k0 0 false else (bif (decide ((w64 ((w64 ((a1.length : Int) - r4)) - 1)) < 1)) then k0 0 false else (bif (decide ((w64 ((w64 ((a1.length : Int) - r4)) - 1)) > 4)) then k0 0 false else (bif (decide (0 ≤ r4) && decide (r4 ≤ (a1.length : Int))) then (g.z54z (a1.take (r4 : Int).toNat) (fun r5 r6 => k0 r4 (decide (r5 > 0)))) else none)))))))))))
noncomputable def I_call_split [Fuel] : C_call_split := ⟨NN, @z54z _, @z18z _⟩
noncomputable def call_split [Fuel] : T_call_split := @call_split_ I_call_split
def SS_call_split (g : T_call_split) : Spec A := fun args => match args with | [.d (.str a1)] => fun k => g a1 (fun z0 z1 => k (.tup [.d (.int .i64 z0), .d (.bool z1)]) [.undef]) | _ => fun _ => none
noncomputable def code_164 : Code := (Tryz.f164.body).getD .skip
noncomputable def E_call_split (g : C_call_split) : Env A := mkE [(166, SS_z54z g.z54z), (191, SS_z18z g.z18z)] [] [] [] [] [] [] [] [] []
theorem sm_call_split (g : C_call_split) : Same (SS_call_split (@call_split_ g)) (abody (E_call_split g) Tryz.f164 code_164 0 [] [.asis, .asis] g.N) := by intro args; unfold SS_call_split; split; exact .inr fun R k => (by kernel_rfl); exact .inl fun R k => rfl
theorem ok_call_split [Fuel] : Ok 164 (SS_call_split (@call_split _)) := okF_of std (.cons ok_z54z (.cons ok_z18z .nil)) ⟨rfl, rfl, by kernel_rfl, rfl, rfl, rfl⟩ (sm_call_split I_call_split) (cuts0 (fun _ => rfl) (by kernel_rfl)) Tryz.func164 (by kernel_rfl) (by kernel_rfl)
abbrev T_call_based : Type 1 := List UInt8 → {R : Type} → (G_Parts → Bool → Option R) → Option R
structure C_call_based where
 N : Nat
 call_split : T_call_split
def call_based_ (g : C_call_based) (a1 : List UInt8) {R : Type} (k0 : G_Parts → Bool → Option R) : Option R :=
 (g.call_split a1 (fun r2 r3 => (bif (!r3) then k0 (⟨[], [], [], 0, []⟩ : G_Parts) false else (bif (decide (0 ≤ (w64 (r2 + 1))) && decide ((w64 (r2 + 1)) ≤ (a1.length : Int))) then (bif (decide (0 ≤ (w64 (r2 + 1))) && decide ((w64 (r2 + 1)) ≤ (a1.length : Int))) then k0 (⟨a1, (a1.take ((w64 (r2 + 1)) : Int).toNat), (a1.drop ((w64 (r2 + 1)) : Int).toNat), 0, []⟩ : G_Parts) true else none) else none))))
noncomputable def I_call_based [Fuel] : C_call_based := ⟨NN, @call_split _⟩
noncomputable def call_based [Fuel] : T_call_based := @call_based_ I_call_based
def SS_call_based (g : T_call_based) : Spec A := fun args => match args with | [.d (.str a1)] => fun k => g a1 (fun z0 z1 => k (.tup [.agg [.d (.str z0.f_Base), .d (.str z0.f_Prefix), .d (.str z0.f_Suffix), .d (.int .i64 z0.f_Kind), .d (.str z0.f_Added)], .d (.bool z1)]) [.undef]) | _ => fun _ => none
noncomputable def code_123 : Code := (Tryz.f123.body).getD .skip
noncomputable def E_call_based (g : C_call_based) : Env A := mkE [(164, SS_call_split g.call_split)] [(2, [0])] [] [] [] [] [] [] [] []
theorem sm_call_based (g : C_call_based) : Same (SS_call_based (@call_based_ g)) (abody (E_call_based g) Tryz.f123 code_123 1 [] [.asis, .asis] g.N) := by intro args; unfold SS_call_based; split; exact .inr fun R k => (by kernel_rfl); exact .inl fun R k => rfl
theorem ok_call_based [Fuel] : Ok 123 (SS_call_based (@call_based _)) := okF_of std (.cons ok_call_split .nil) ⟨rfl, rfl, by kernel_rfl, rfl, rfl, rfl⟩ (sm_call_based I_call_based) (cuts0 (fun _ => rfl) (by kernel_rfl)) Tryz.func123 (by kernel_rfl) (by kernel_rfl)
abbrev T_z83z : Type 1 := List UInt8 → {R : Type} → (Bool → Option R) → Option R
structure C_z83z where
 N : Nat
 z54z : T_z54z
def z83z_ (g : C_z83z) (a1 : List UInt8) {R : Type} (k0 : Bool → Option R) : Option R :=
 (g.z54z a1 (fun r2 r3 => (bif r3 then (bif (decide (r2 > 0)) then k0 (decide ((a1.length : Int) ≤ 4)) else k0 false) else k0 false)))
noncomputable def I_z83z [Fuel] : C_z83z := ⟨NN, @z54z _⟩
noncomputable def z83z [Fuel] : T_z83z := @z83z_ I_z83z
def SS_z83z (g : T_z83z) : Spec A := fun args => match args with | [.d (.str a1)] => fun k => g a1 (fun z0 => k (.d (.bool z0)) [.undef]) | _ => fun _ => none
noncomputable def code_125 : Code := (Tryz.f125.body).getD .skip
noncomputable def E_z83z (g : C_z83z) : Env A := mkE [(166, SS_z54z g.z54z)] [] [] [] [] [] [] [] [] []
theorem sm_z83z (g : C_z83z) : Same (SS_z83z (@z83z_ g)) (abody (E_z83z g) Tryz.f125 code_125 0 [] [.asis] g.N) := by intro args; unfold SS_z83z; split; exact .inr fun R k => (by kernel_rfl); exact .inl fun R k => rfl
theorem ok_z83z [Fuel] : Ok 125 (SS_z83z (@z83z _)) := okF_of std (.cons ok_z54z .nil) ⟨rfl, rfl, by kernel_rfl, rfl, rfl, rfl⟩ (sm_z83z I_z83z) (cuts0 (fun _ => rfl) (by kernel_rfl)) Tryz.func125 (by kernel_rfl) (by kernel_rfl)
abbrev T_call_tail : Type 1 := List UInt8 → {R : Type} → (Int → List UInt8 → Bool → Option R) → Option R
structure C_call_tail where
 N : Nat
 z83z : T_z83z
 z92z : T_z92z
def call_tail_ (g : C_call_tail) (a1 : List UInt8) {R : Type} (k0 : Int → List UInt8 → Bool → Option R) : Option R :=
 (bif (a1 == [112]) then k0 3 [] true else (bif (a1 == [109]) then k0 4 [] true else (bif (a1 == [109, 109]) then k0 5 [] true else (bif (a1 == [97, 109]) then k0 6 [] true else (bif ((a1.length : Int) == 1) then (at_ a1 0 fun x2 => (g.z92z (x2.toNat : Int) (fun r3 => (bif r3 then k0 2 a1 true else (g.z83z a1 (fun r4 => k0 1 a1 r4)))))) else (g.z83z a1 (fun r5 => k0 1 a1 r5)))))))
noncomputable def I_call_tail [Fuel] : C_call_tail := ⟨NN, @z83z _, @z92z _⟩
noncomputable def call_tail [Fuel] : T_call_tail := @call_tail_ I_call_tail
def SS_call_tail (g : T_call_tail) : Spec A := fun args => match args with | [.d (.str a1)] => fun k => g a1 (fun z0 z1 z2 => k (.tup [.d (.int .i64 z0), .d (.str z1), .d (.bool z2)]) [.undef]) | _ => fun _ => none
noncomputable def code_126 : Code := (Tryz.f126.body).getD .skip
noncomputable def E_call_tail (g : C_call_tail) : Env A := mkE [(125, SS_z83z g.z83z), (167, SS_z92z g.z92z)] [] [] [] [] [] [] [] [] []
theorem sm_call_tail (g : C_call_tail) : Same (SS_call_tail (@call_tail_ g)) (abody (E_call_tail g) Tryz.f126 code_126 0 [] [.asis, .asis, .asis] g.N) := by intro args; unfold SS_call_tail; split; exact .inr fun R k => (by kernel_rfl); exact .inl fun R k => rfl
theorem ok_call_tail [Fuel] : Ok 126 (SS_call_tail (@call_tail _)) := okF_of std (.cons ok_z83z (.cons ok_z92z .nil)) ⟨rfl, rfl, by kernel_rfl, rfl, rfl, rfl⟩ (sm_call_tail I_call_tail) (cuts0 (fun _ => rfl) (by kernel_rfl)) Tryz.func126 (by kernel_rfl) (by kernel_rfl)
abbrev T_call_Parts : Type 1 := List UInt8 → {R : Type} → (G_Parts → Bool → Option R) → Option R
structure C_call_Parts where
 N : Nat
 call_based : T_call_based
 z88z : T_z88z
 z83z : T_z83z
 call_tail : T_call_tail
def call_Parts_ (g : C_call_Parts) (a1 : List UInt8) {R : Type} (k0 : G_Parts → Bool → Option R) : Option R :=
 (bif (decide ((a1.length : Int) > 14)) then k0 (⟨[], [], [], 0, []⟩ : G_Parts) false else (g.call_based a1 (fun r2 r3 => (bif r3 then k0 r2 true else (g.z88z a1 [47] (fun r4 r5 r6 => (bif (!r6) then k0 (⟨[], [], [], 0, []⟩ : G_Parts) false else (g.call_based r5 (fun r7 r8 => (bif r8 then (g.z83z r4 (fun r9 => (bif r9 then k0 (⟨r7.f_Base, r7.f_Prefix, r7.f_Suffix, 1, r4⟩ : G_Parts) true else (g.call_based r4 (fun r10 r11 => (g.call_tail r5 (fun r12 r13 r14 => (bif (!r11) then k0 (⟨[], [], [], 0, []⟩ : G_Parts) false else (bif (!r14) then k0 (⟨[], [], [], 0, []⟩ : G_Parts) false else k0 (⟨r10.f_Base, r10.f_Prefix, r10.f_Suffix, r12, r13⟩ : G_Parts) true))))))))) else (g.call_based r4 (fun r15 r16 => (g.call_tail r5 (fun r17 r18 r19 => (bif (!r16) then k0 (⟨[], [], [], 0, []⟩ : G_Parts) false else (bif (!r19) then k0 (⟨[], [], [], 0, []⟩ : G_Parts) false else k0 (⟨r15.f_Base, r15.f_Prefix, r15.f_Suffix, r17, r18⟩ : G_Parts) true))))))))))))))))
noncomputable def I_call_Parts [Fuel] : C_call_Parts := ⟨NN, @call_based _, @z88z _, @z83z _, @call_tail _⟩
noncomputable def call_Parts [Fuel] : T_call_Parts := @call_Parts_ I_call_Parts
def SS_call_Parts (g : T_call_Parts) : Spec A := fun args => match args with | [.d (.str a1)] => fun k => g a1 (fun z0 z1 => k (.tup [.agg [.d (.str z0.f_Base), .d (.str z0.f_Prefix), .d (.str z0.f_Suffix), .d (.int .i64 z0.f_Kind), .d (.str z0.f_Added)], .d (.bool z1)]) [.undef]) | _ => fun _ => none
noncomputable def code_75 : Code := (Tryz.f75.body).getD .skip
noncomputable def E_call_Parts (g : C_call_Parts) : Env A := mkE [(123, SS_call_based g.call_based), (124, SS_z88z g.z88z), (125, SS_z83z g.z83z), (126, SS_call_tail g.call_tail)] [(2, [0]), (4, [1]), (9, [2]), (11, [3])] [] [] [] [] [] [] [] []
theorem sm_call_Parts (g : C_call_Parts) : Same (SS_call_Parts (@call_Parts_ g)) (abody (E_call_Parts g) Tryz.f75 code_75 4 [] [.asis, .asis] g.N) := by intro args; unfold SS_call_Parts; split; exact .inr fun R k => (by kernel_rfl); exact .inl fun R k => rfl
theorem ok_call_Parts [Fuel] : Ok 75 (SS_call_Parts (@call_Parts _)) := okF_of std (.cons ok_call_based (.cons ok_z88z (.cons ok_z83z (.cons ok_call_tail .nil)))) ⟨rfl, rfl, by kernel_rfl, rfl, rfl, rfl⟩ (sm_call_Parts I_call_Parts) (cuts0 (fun _ => rfl) (by kernel_rfl)) Tryz.func75 (by kernel_rfl) (by kernel_rfl)
abbrev T_call_Is : Type 1 := List UInt8 → {R : Type} → (Bool → Option R) → Option R
structure C_call_Is where
 N : Nat
 call_Parts : T_call_Parts
def call_Is_ (g : C_call_Is) (a1 : List UInt8) {R : Type} (k0 : Bool → Option R) : Option R :=
 (g.call_Parts a1 (fun r2 r3 => k0 r3))
noncomputable def I_call_Is [Fuel] : C_call_Is := ⟨NN, @call_Parts _⟩
noncomputable def call_Is [Fuel] : T_call_Is := @call_Is_ I_call_Is
def SS_call_Is (g : T_call_Is) : Spec A := fun args => match args with | [.d (.str a1)] => fun k => g a1 (fun z0 => k (.d (.bool z0)) [.undef]) | _ => fun _ => none
noncomputable def code_118 : Code := (Tryz.f118.body).getD .skip
noncomputable def E_call_Is (g : C_call_Is) : Env A := mkE [(75, SS_call_Parts g.call_Parts)] [(3, [0])] [] [] [] [] [] [] [] []
theorem sm_call_Is (g : C_call_Is) : Same (SS_call_Is (@call_Is_ g)) (abody (E_call_Is g) Tryz.f118 code_118 1 [] [.asis] g.N) := by intro args; unfold SS_call_Is; split; exact .inr fun R k => (by kernel_rfl); exact .inl fun R k => rfl
theorem ok_call_Is [Fuel] : Ok 118 (SS_call_Is (@call_Is _)) := okF_of std (.cons ok_call_Parts .nil) ⟨rfl, rfl, by kernel_rfl, rfl, rfl, rfl⟩ (sm_call_Is I_call_Is) (cuts0 (fun _ => rfl) (by kernel_rfl)) Tryz.func118 (by kernel_rfl) (by kernel_rfl)
abbrev T_z36z : Type 1 := List Int → {R : Type} → (Int → Option R) → Option R
def z36z_L3 (g : Nat) : Nat → Int → List Int → Int → Int → {R : Type} → (Int → Int → Option R) → (Int → Option R) → Option R
 | 0, _, _, _, _, _, _, _ => none
 | n + 1, v2, v3, v4, v5, _, e0, e1 => (bif (decide (v5 < v4)) then (get_ v3 v5 fun x7 => (bif (x7 != v2) then e0 x7 v2 else z36z_L3 g n v2 v3 v4 (w64 (v5 + 1)) e0 e1)) else e1 v2)
def z36z_ (g : Nat) (a1 : List Int) {R : Type} (k0 : Int → Option R) : Option R :=
 (z36z_L3 g g 0 a1 (a1.length : Int) 0 (fun e8 e9 => k0 e8) (fun e10 => k0 e10))
noncomputable def z36z [Fuel] : T_z36z := @z36z_ NN
def SS_z36z (g : T_z36z) : Spec A := fun args => match args with | [.d (.sl 3 a1)] => fun k => g a1 (fun z0 => k (.d (.int .i64 z0)) [.undef]) | _ => fun _ => none
def sh_z36z_L3 : SSt := mkSh 18 0 [(3, .int .i64), (6, .sl 3), (7, .int .i64), (8, .int .i64)] []
def LP_z36z_L3 (g : Nat) (n : Nat) : LPT A := fun ps => match ps with | [.d (.int .i64 p1), .d (.sl 3 p2), .d (.int .i64 p3), .d (.int .i64 p4)] => fun K => z36z_L3 g n p1 p2 p3 p4 (fun z0 z1 => K .ret (mkSt 18 0 [(2, .d (.int .i64 z0)), (3, .d (.int .i64 z1))] [])) (fun z0 => K (.exit 0) (mkSt 18 0 [(3, .d (.int .i64 z0))] [])) | _ => fun _ => none
noncomputable def code_121 : Code := (Tryz.f121.body).getD .skip
noncomputable def E_z36z (g : Nat) : Env A := mkE [] [] [(3, ⟨[3, 6, 7, 8], [], [], [], [], [], []⟩)] [(3, ⟨[2, 3], [], [], [], [], [], []⟩)] [(3, pieceOf sh_z36z_L3 (LP_z36z_L3 g g))] [] [] [] [] []
theorem ct_z36z [Fuel] : NatTab (E_z36z NN).C := ct_of (P := Tryz.prog) (T := T) .nil (by kernel_rfl)
noncomputable def cb_z36z_L3 : Code := sub [1, 1, 0, 1, 0, 0] code_121
theorem s_z36z_L3 (g : Nat) (n : Nat) : StepOk (E_z36z g) g cb_z36z_L3 sh_z36z_L3 (LP_z36z_L3 g) n := by intro ps; unfold LP_z36z_L3; split; exact .inr fun R K => (by kernel_rfl); exact .inl fun R K => rfl
theorem lf_z36z_L3 [Fuel] : LoopFine (E_z36z NN) NN cb_z36z_L3 := fine_loop sh_z36z_L3 (LP_z36z_L3 NN) (by kernel_rfl) ct_z36z (cuts0 (fun _ => rfl) (by kernel_rfl)) (fun ps R K => by unfold LP_z36z_L3; split <;> (try unfold z36z_L3) <;> rfl) (s_z36z_L3 NN)
theorem sm_z36z (g : Nat) : Same (SS_z36z (@z36z_ g)) (abody (E_z36z g) Tryz.f121 code_121 0 [] [.asis] g) := by intro args; unfold SS_z36z; split; exact .inr fun R k => (by kernel_rfl); exact .inl fun R k => rfl
theorem ok_z36z [Fuel] : Ok 121 (SS_z36z (@z36z _)) := okF_of std .nil ⟨rfl, rfl, by kernel_rfl, rfl, rfl, rfl⟩ (sm_z36z NN) (cutsL (fun _ => rfl) (.cons lf_z36z_L3 .nil) (by kernel_rfl)) Tryz.func121 (by kernel_rfl) (by kernel_rfl)
noncomputable def Ed_z36z (g : Nat) : Env A := mkED [] [] [(3, ⟨[3, 6, 7, 8], [], [], [], [], [], []⟩)] [(3, ⟨[2, 3], [], [], [], [], [], []⟩)] [(3, pieceOf sh_z36z_L3 (LP_z36z_L3 g g))] [] [] [] [] []
theorem ctd_z36z [Fuel] : NatTab (Ed_z36z NN).C := ct_of (P := Tryz.prog) (T := TD) .nil (by kernel_rfl)
theorem sd_z36z_L3 (g : Nat) (n : Nat) : StepOk (Ed_z36z g) g cb_z36z_L3 sh_z36z_L3 (LP_z36z_L3 g) n := by intro ps; unfold LP_z36z_L3; split; exact .inr fun R K => (by kernel_rfl); exact .inl fun R K => rfl
theorem lfd_z36z_L3 [Fuel] : LoopFine (Ed_z36z NN) NN cb_z36z_L3 := fine_loop sh_z36z_L3 (LP_z36z_L3 NN) (by kernel_rfl) ctd_z36z (cuts0 (fun _ => rfl) (by kernel_rfl)) (fun ps R K => by unfold LP_z36z_L3; split <;> (try unfold z36z_L3) <;> rfl) (sd_z36z_L3 NN)
theorem smd_z36z (g : Nat) : Same (SS_z36z (@z36z_ g)) (abody (Ed_z36z g) Tryz.f121 code_121 0 [] [.asis] g) := by intro args; unfold SS_z36z; split; exact .inr fun R k => (by kernel_rfl); exact .inl fun R k => rfl
theorem okd_z36z [Fuel] : OkD 121 (SS_z36z (@z36z _)) := okF_of stdD .nil ⟨rfl, rfl, by kernel_rfl, rfl, rfl, rfl⟩ (smd_z36z NN) (cutsL (fun _ => rfl) (.cons lfd_z36z_L3 .nil) (by kernel_rfl)) Tryz.func121 (by kernel_rfl) (by kernel_rfl)
abbrev T_z66z : Type 1 := G_Spot → G_Spot → {R : Type} → (Int → Option R) → Option R
structure C_z66z where
 N : Nat
 strings_Compare : T_strings_Compare
 z36z : T_z36z
 z31z : T_z31z
def z66z_ (g : C_z66z) (a1 a2 : G_Spot) {R : Type} (k0 : Int → Option R) : Option R :=
 (g.z31z a1.f_At a2.f_At (fun r3 => (g.z31z a1.f_Hertz a2.f_Hertz (fun r4 => (g.strings_Compare a1.f_Call a2.f_Call (fun r5 => (g.strings_Compare a1.f_By a2.f_By (fun r6 => (g.z36z [r3, r4, r5, r6] (fun r7 => k0 r7))))))))))
noncomputable def I_z66z [Fuel] : C_z66z := ⟨NN, @strings_Compare _, @z36z _, @z31z _⟩
noncomputable def z66z [Fuel] : T_z66z := @z66z_ I_z66z
def SS_z66z (g : T_z66z) : Spec A := fun args => match args with | [.agg [.d (.int .i64 a1), .d (.int .i64 a2), .d (.str a3), .d (.str a4)], .agg [.d (.int .i64 a5), .d (.int .i64 a6), .d (.str a7), .d (.str a8)]] => fun k => g ⟨a1, a2, a3, a4⟩ ⟨a5, a6, a7, a8⟩ (fun z0 => k (.d (.int .i64 z0)) [.undef, .undef]) | _ => fun _ => none
noncomputable def code_119 : Code := (Tryz.f119.body).getD .skip
noncomputable def E_z66z (g : C_z66z) : Env A := mkE [(116, SS_strings_Compare g.strings_Compare), (121, SS_z36z g.z36z), (122, SS_z31z g.z31z)] [(2, [0]), (3, [1]), (25, [2])] [] [] [] [] [] [] [] []
theorem sm_z66z (g : C_z66z) : Same (SS_z66z (@z66z_ g)) (abody (E_z66z g) Tryz.f119 code_119 3 [] [.asis] g.N) := by intro args; unfold SS_z66z; split; exact .inr fun R k => (by kernel_rfl); exact .inl fun R k => rfl
theorem ok_z66z [Fuel] : Ok 119 (SS_z66z (@z66z _)) := okF_of std (.cons ok_strings_Compare (.cons ok_z36z (.cons ok_z31z .nil))) ⟨rfl, rfl, by kernel_rfl, rfl, rfl, rfl⟩ (sm_z66z I_z66z) (cuts0 (fun _ => rfl) (by kernel_rfl)) Tryz.func119 (by kernel_rfl) (by kernel_rfl)
abbrev T_z39z : Type 1 := List G_Spot → {R : Type} → (Int → Option R) → Option R
structure C_z39z where
 N : Nat
 z44z : T_z44z
 z55z : T_z55z
 call_Is : T_call_Is
 z66z : T_z66z
def z39z_L4 (g : C_z39z) : Nat → List G_Spot → List G_Spot → Int → Int → {R : Type} → (Int → Option R) → Option R → Option R
 | 0, _, _, _, _, _, _, _ => none
 | n + 1, v2, v3, v4, v5, _, e0, e1 => (bif (decide (v5 < v4)) then (get_ v3 v5 fun x13 => (g.z55z x13.f_At (fun r14 => (bif (!r14) then e0 1 else (g.z44z x13.f_Hertz 0 30000000000 (fun r15 => (bif r15 then e0 1 else (g.call_Is x13.f_Call (fun r16 => (bif (!r16) then e0 3 else (g.call_Is x13.f_By (fun r17 => (bif (!r17) then e0 3 else (bif (decide (v5 > 0)) then (get_ v2 (w64 (v5 - 1)) fun x18 => (g.z66z x18 x13 (fun r19 => (bif (decide (r19 ≥ 0)) then e0 7 else z39z_L4 g n v2 v3 v4 (w64 (v5 + 1)) e0 e1)))) else z39z_L4 g n v2 v3 v4 (w64 (v5 + 1)) e0 e1)))))))))))))) else e1)
def z39z_ (g : C_z39z) (a1 : List G_Spot) {R : Type} (k0 : Int → Option R) : Option R :=
 (bif (decide ((a1.length : Int) > 2000)) then k0 2 else (z39z_L4 g g.N a1 a1 (a1.length : Int) 0 (fun e20 => k0 e20) (k0 0)))
noncomputable def I_z39z [Fuel] : C_z39z := ⟨NN, @z44z _, @z55z _, @call_Is _, @z66z _⟩
noncomputable def z39z [Fuel] : T_z39z := @z39z_ I_z39z
def SS_z39z (g : T_z39z) : Spec A := fun args => match args with | [.d (.sl 42 a1)] => fun k => g a1 (fun z0 => k (.d (.int .i64 z0)) [.undef]) | _ => fun _ => none
def sh_z39z_L4 : SSt := mkSh 50 1 [(0, .sl 42), (8, .sl 42), (9, .int .i64), (10, .int .i64)] []
def LP_z39z_L4 (g : C_z39z) (n : Nat) : LPT A := fun ps => match ps with | [.d (.sl 42 p1), .d (.sl 42 p2), .d (.int .i64 p3), .d (.int .i64 p4)] => fun K => z39z_L4 g n p1 p2 p3 p4 (fun z0 => K .ret (mkSt 50 1 [(2, .d (.int .i64 z0))] [])) (K (.exit 0) (mkSt 50 1 [] [])) | _ => fun _ => none
noncomputable def code_71 : Code := (Tryz.f71.body).getD .skip
noncomputable def E_z39z (g : C_z39z) : Env A := mkE [(42, SS_z44z g.z44z), (74, SS_z55z g.z55z), (118, SS_call_Is g.call_Is), (119, SS_z66z g.z66z)] [(4, [0])] [(4, ⟨[0, 8, 9, 10], [], [], [], [], [], []⟩)] [(4, ⟨[2], [], [], [], [], [], []⟩)] [(4, pieceOf sh_z39z_L4 (LP_z39z_L4 g g.N))] [] [] [] [] []
theorem ct_z39z [Fuel] : NatTab (E_z39z I_z39z).C := ct_of (P := Tryz.prog) (T := T) (.cons ok_z44z (.cons ok_z55z (.cons ok_call_Is (.cons ok_z66z .nil)))) (by kernel_rfl)
noncomputable def cb_z39z_L4 : Code := sub [1, 1, 0, 1, 0, 0] code_71
theorem s_z39z_L4 (g : C_z39z) (n : Nat) : StepOk (E_z39z g) g.N cb_z39z_L4 sh_z39z_L4 (LP_z39z_L4 g) n := by intro ps; unfold LP_z39z_L4; split; exact .inr fun R K => (by kernel_rfl); exact .inl fun R K => rfl
theorem lf_z39z_L4 [Fuel] : LoopFine (E_z39z I_z39z) NN cb_z39z_L4 := fine_loop sh_z39z_L4 (LP_z39z_L4 I_z39z) (by kernel_rfl) ct_z39z (cuts0 (fun _ => rfl) (by kernel_rfl)) (fun ps R K => by unfold LP_z39z_L4; split <;> (try unfold z39z_L4) <;> rfl) (s_z39z_L4 I_z39z)
theorem sm_z39z (g : C_z39z) : Same (SS_z39z (@z39z_ g)) (abody (E_z39z g) Tryz.f71 code_71 1 [] [.asis] g.N) := by intro args; unfold SS_z39z; split; exact .inr fun R k => (by kernel_rfl); exact .inl fun R k => rfl
theorem ok_z39z [Fuel] : Ok 71 (SS_z39z (@z39z _)) := okF_of std (.cons ok_z44z (.cons ok_z55z (.cons ok_call_Is (.cons ok_z66z .nil)))) ⟨rfl, rfl, by kernel_rfl, rfl, rfl, rfl⟩ (sm_z39z I_z39z) (cutsL (fun _ => rfl) (.cons lf_z39z_L4 .nil) (by kernel_rfl)) Tryz.func71 (by kernel_rfl) (by kernel_rfl)
abbrev T_z73z : Type 1 := List G_Band → List G_Spot → {R : Type} → (Int → Option R) → Option R
structure C_z73z where
 N : Nat
 z8z : T_z8z
 z39z : T_z39z
def z73z_ (g : C_z73z) (a1 : List G_Band) (a2 : List G_Spot) {R : Type} (k0 : Int → Option R) : Option R :=
 (g.z8z a1 (fun r3 => (bif (r3 != 0) then k0 r3 else (g.z39z a2 (fun r4 => k0 r4)))))
noncomputable def I_z73z [Fuel] : C_z73z := ⟨NN, @z8z _, @z39z _⟩
noncomputable def z73z [Fuel] : T_z73z := @z73z_ I_z73z
def SS_z73z (g : T_z73z) : Spec A := fun args => match args with | [.d (.sl 62 a1), .d (.sl 42 a2)] => fun k => g a1 a2 (fun z0 => k (.d (.int .i64 z0)) [.undef, .undef]) | _ => fun _ => none
noncomputable def code_31 : Code := (Tryz.f31.body).getD .skip
noncomputable def E_z73z (g : C_z73z) : Env A := mkE [(41, SS_z8z g.z8z), (71, SS_z39z g.z39z)] [] [] [] [] [] [] [] [] []
theorem sm_z73z (g : C_z73z) : Same (SS_z73z (@z73z_ g)) (abody (E_z73z g) Tryz.f31 code_31 0 [] [.asis] g.N) := by intro args; unfold SS_z73z; split; exact .inr fun R k => (by kernel_rfl); exact .inl fun R k => rfl
theorem ok_z73z [Fuel] : Ok 31 (SS_z73z (@z73z _)) := okF_of std (.cons ok_z8z (.cons ok_z39z .nil)) ⟨rfl, rfl, by kernel_rfl, rfl, rfl, rfl⟩ (sm_z73z I_z73z) (cuts0 (fun _ => rfl) (by kernel_rfl)) Tryz.func31 (by kernel_rfl) (by kernel_rfl)
abbrev T_kit_IsMode : Type 1 := Int → {R : Type} → (Bool → Option R) → Option R
structure C_kit_IsMode where
 N : Nat
 z44z : T_z44z
def kit_IsMode_ (g : C_kit_IsMode) (a1 : Int) {R : Type} (k0 : Bool → Option R) : Option R :=
 (g.z44z a1 1 3 (fun r2 => k0 (!r2)))
noncomputable def I_kit_IsMode [Fuel] : C_kit_IsMode := ⟨NN, @z44z _⟩
noncomputable def kit_IsMode [Fuel] : T_kit_IsMode := @kit_IsMode_ I_kit_IsMode
def SS_kit_IsMode (g : T_kit_IsMode) : Spec A := fun args => match args with | [.d (.int .i64 a1)] => fun k => g a1 (fun z0 => k (.d (.bool z0)) [.undef]) | _ => fun _ => none
noncomputable def code_33 : Code := (Tryz.f33.body).getD .skip
noncomputable def E_kit_IsMode (g : C_kit_IsMode) : Env A := mkE [(42, SS_z44z g.z44z)] [] [] [] [] [] [] [] [] []
theorem sm_kit_IsMode (g : C_kit_IsMode) : Same (SS_kit_IsMode (@kit_IsMode_ g)) (abody (E_kit_IsMode g) Tryz.f33 code_33 0 [] [.asis] g.N) := by intro args; unfold SS_kit_IsMode; split; exact .inr fun R k => (by kernel_rfl); exact .inl fun R k => rfl
theorem ok_kit_IsMode [Fuel] : Ok 33 (SS_kit_IsMode (@kit_IsMode _)) := okF_of std (.cons ok_z44z .nil) ⟨rfl, rfl, by kernel_rfl, rfl, rfl, rfl⟩ (sm_kit_IsMode I_kit_IsMode) (cuts0 (fun _ => rfl) (by kernel_rfl)) Tryz.func33 (by kernel_rfl) (by kernel_rfl)
abbrev T_kit_IsName : Type 1 := List UInt8 → {R : Type} → (Bool → Option R) → Option R
structure C_kit_IsName where
 N : Nat
 kit_IsKey : T_kit_IsKey
def kit_IsName_ (g : C_kit_IsName) (a1 : List UInt8) {R : Type} (k0 : Bool → Option R) : Option R :=
 (bif (a1 == []) then k0 true else (g.kit_IsKey a1 (fun r2 => k0 r2)))
noncomputable def I_kit_IsName [Fuel] : C_kit_IsName := ⟨NN, @kit_IsKey _⟩
noncomputable def kit_IsName [Fuel] : T_kit_IsName := @kit_IsName_ I_kit_IsName
def SS_kit_IsName (g : T_kit_IsName) : Spec A := fun args => match args with | [.d (.str a1)] => fun k => g a1 (fun z0 => k (.d (.bool z0)) [.undef]) | _ => fun _ => none
noncomputable def code_120 : Code := (Tryz.f120.body).getD .skip
noncomputable def E_kit_IsName (g : C_kit_IsName) : Env A := mkE [(80, SS_kit_IsKey g.kit_IsKey)] [] [] [] [] [] [] [] [] []
theorem sm_kit_IsName (g : C_kit_IsName) : Same (SS_kit_IsName (@kit_IsName_ g)) (abody (E_kit_IsName g) Tryz.f120 code_120 0 [] [.asis] g.N) := by intro args; unfold SS_kit_IsName; split; exact .inr fun R k => (by kernel_rfl); exact .inl fun R k => rfl
theorem ok_kit_IsName [Fuel] : Ok 120 (SS_kit_IsName (@kit_IsName _)) := okF_of std (.cons ok_kit_IsKey .nil) ⟨rfl, rfl, by kernel_rfl, rfl, rfl, rfl⟩ (sm_kit_IsName I_kit_IsName) (cuts0 (fun _ => rfl) (by kernel_rfl)) Tryz.func120 (by kernel_rfl) (by kernel_rfl)
abbrev T_z61z : Type 1 := G_Contact → {R : Type} → (Int → Option R) → Option R
structure C_z61z where
 N : Nat
 kit_IsMode : T_kit_IsMode
 z44z : T_z44z
 z55z : T_z55z
 kit_IsKey : T_kit_IsKey
 call_Is : T_call_Is
 kit_IsName : T_kit_IsName
def z61z_ (g : C_z61z) (a1 : G_Contact) {R : Type} (k0 : Int → Option R) : Option R :=
 (g.z55z a1.f_At (fun r2 => (bif (!r2) then k0 1 else (g.kit_IsMode a1.f_Mode (fun r3 => (bif (!r3) then k0 4 else (g.kit_IsKey a1.f_Band (fun r4 => (bif (!r4) then k0 5 else (g.call_Is a1.f_Call (fun r5 => (bif (!r5) then k0 3 else (g.z44z a1.f_Sent 0 99999 (fun r6 => (bif r6 then k0 1 else (g.z44z a1.f_Heard 0 99999 (fun r7 => (bif r7 then k0 1 else (g.kit_IsName a1.f_Gave (fun r8 => (bif (!r8) then k0 5 else (g.kit_IsName a1.f_Got (fun r9 => (bif (!r9) then k0 5 else k0 0))))))))))))))))))))))))
noncomputable def I_z61z [Fuel] : C_z61z := ⟨NN, @kit_IsMode _, @z44z _, @z55z _, @kit_IsKey _, @call_Is _, @kit_IsName _⟩
noncomputable def z61z [Fuel] : T_z61z := @z61z_ I_z61z
def SS_z61z (g : T_z61z) : Spec A := fun args => match args with | [.agg [.d (.int .i64 a1), .d (.int .i64 a2), .d (.str a3), .d (.str a4), .d (.int .i64 a5), .d (.int .i64 a6), .d (.str a7), .d (.str a8)]] => fun k => g ⟨a1, a2, a3, a4, a5, a6, a7, a8⟩ (fun z0 => k (.d (.int .i64 z0)) [.undef]) | _ => fun _ => none
noncomputable def code_72 : Code := (Tryz.f72.body).getD .skip
noncomputable def E_z61z (g : C_z61z) : Env A := mkE [(33, SS_kit_IsMode g.kit_IsMode), (42, SS_z44z g.z44z), (74, SS_z55z g.z55z), (80, SS_kit_IsKey g.kit_IsKey), (118, SS_call_Is g.call_Is), (120, SS_kit_IsName g.kit_IsName)] [(1, [0])] [] [] [] [] [] [] [] []
theorem sm_z61z (g : C_z61z) : Same (SS_z61z (@z61z_ g)) (abody (E_z61z g) Tryz.f72 code_72 1 [] [.asis] g.N) := by intro args; unfold SS_z61z; split; exact .inr fun R k => (by kernel_rfl); exact .inl fun R k => rfl
theorem ok_z61z [Fuel] : Ok 72 (SS_z61z (@z61z _)) := okF_of std (.cons ok_kit_IsMode (.cons ok_z44z (.cons ok_z55z (.cons ok_kit_IsKey (.cons ok_call_Is (.cons ok_kit_IsName .nil)))))) ⟨rfl, rfl, by kernel_rfl, rfl, rfl, rfl⟩ (sm_z61z I_z61z) (cuts0 (fun _ => rfl) (by kernel_rfl)) Tryz.func72 (by kernel_rfl) (by kernel_rfl)
abbrev T_z51z : Type 1 := G_Contact → G_Contact → {R : Type} → (Int → Option R) → Option R
structure C_z51z where
 N : Nat
 strings_Compare : T_strings_Compare
 z36z : T_z36z
 z31z : T_z31z
def z51z_ (g : C_z51z) (a1 a2 : G_Contact) {R : Type} (k0 : Int → Option R) : Option R :=
 (g.z31z a1.f_At a2.f_At (fun r3 => (g.strings_Compare a1.f_Call a2.f_Call (fun r4 => (g.strings_Compare a1.f_Band a2.f_Band (fun r5 => (g.z31z a1.f_Mode a2.f_Mode (fun r6 => (g.z36z [r3, r4, r5, r6] (fun r7 => k0 r7))))))))))
noncomputable def I_z51z [Fuel] : C_z51z := ⟨NN, @strings_Compare _, @z36z _, @z31z _⟩
noncomputable def z51z [Fuel] : T_z51z := @z51z_ I_z51z
def SS_z51z (g : T_z51z) : Spec A := fun args => match args with | [.agg [.d (.int .i64 a1), .d (.int .i64 a2), .d (.str a3), .d (.str a4), .d (.int .i64 a5), .d (.int .i64 a6), .d (.str a7), .d (.str a8)], .agg [.d (.int .i64 a9), .d (.int .i64 a10), .d (.str a11), .d (.str a12), .d (.int .i64 a13), .d (.int .i64 a14), .d (.str a15), .d (.str a16)]] => fun k => g ⟨a1, a2, a3, a4, a5, a6, a7, a8⟩ ⟨a9, a10, a11, a12, a13, a14, a15, a16⟩ (fun z0 => k (.d (.int .i64 z0)) [.undef, .undef]) | _ => fun _ => none
noncomputable def code_73 : Code := (Tryz.f73.body).getD .skip
noncomputable def E_z51z (g : C_z51z) : Env A := mkE [(116, SS_strings_Compare g.strings_Compare), (121, SS_z36z g.z36z), (122, SS_z31z g.z31z)] [(2, [0]), (3, [1]), (25, [2])] [] [] [] [] [] [] [] []
theorem sm_z51z (g : C_z51z) : Same (SS_z51z (@z51z_ g)) (abody (E_z51z g) Tryz.f73 code_73 3 [] [.asis] g.N) := by intro args; unfold SS_z51z; split; exact .inr fun R k => (by kernel_rfl); exact .inl fun R k => rfl
theorem ok_z51z [Fuel] : Ok 73 (SS_z51z (@z51z _)) := okF_of std (.cons ok_strings_Compare (.cons ok_z36z (.cons ok_z31z .nil))) ⟨rfl, rfl, by kernel_rfl, rfl, rfl, rfl⟩ (sm_z51z I_z51z) (cuts0 (fun _ => rfl) (by kernel_rfl)) Tryz.func73 (by kernel_rfl) (by kernel_rfl)
noncomputable def Ed_z51z (g : C_z51z) : Env A := mkED [(116, SS_strings_Compare g.strings_Compare), (121, SS_z36z g.z36z), (122, SS_z31z g.z31z)] [(2, [0]), (3, [1]), (25, [2])] [] [] [] [] [] [] [] []
theorem smd_z51z (g : C_z51z) : Same (SS_z51z (@z51z_ g)) (abody (Ed_z51z g) Tryz.f73 code_73 3 [] [.asis] g.N) := by intro args; unfold SS_z51z; split; exact .inr fun R k => (by kernel_rfl); exact .inl fun R k => rfl
theorem okd_z51z [Fuel] : OkD 73 (SS_z51z (@z51z _)) := okF_of stdD (.cons okd_strings_Compare (.cons okd_z36z (.cons okd_z31z .nil))) ⟨rfl, rfl, by kernel_rfl, rfl, rfl, rfl⟩ (smd_z51z I_z51z) (cuts0 (fun _ => rfl) (by kernel_rfl)) Tryz.func73 (by kernel_rfl) (by kernel_rfl)
abbrev T_z46z : Type 1 := List G_Contact → {R : Type} → (Int → Option R) → Option R
structure C_z46z where
 N : Nat
 z61z : T_z61z
 z51z : T_z51z
def z46z_L4 (g : C_z46z) : Nat → List G_Contact → List G_Contact → Int → Int → {R : Type} → (Int → Option R) → Option R → Option R
 | 0, _, _, _, _, _, _, _ => none
 | n + 1, v2, v3, v4, v5, _, e0, e1 => (bif (decide (v5 < v4)) then (get_ v3 v5 fun x10 => (g.z61z x10 (fun r11 => (bif (r11 != 0) then e0 r11 else (bif (decide (v5 > 0)) then (get_ v2 (w64 (v5 - 1)) fun x12 => (g.z51z x12 x10 (fun r13 => (bif (decide (r13 ≥ 0)) then e0 7 else z46z_L4 g n v2 v3 v4 (w64 (v5 + 1)) e0 e1)))) else z46z_L4 g n v2 v3 v4 (w64 (v5 + 1)) e0 e1))))) else e1)
def z46z_ (g : C_z46z) (a1 : List G_Contact) {R : Type} (k0 : Int → Option R) : Option R :=
 (bif (decide ((a1.length : Int) > 2000)) then k0 2 else (z46z_L4 g g.N a1 a1 (a1.length : Int) 0 (fun e14 => k0 e14) (k0 0)))
noncomputable def I_z46z [Fuel] : C_z46z := ⟨NN, @z61z _, @z51z _⟩
noncomputable def z46z [Fuel] : T_z46z := @z46z_ I_z46z
def SS_z46z (g : T_z46z) : Spec A := fun args => match args with | [.d (.sl 38 a1)] => fun k => g a1 (fun z0 => k (.d (.int .i64 z0)) [.undef]) | _ => fun _ => none
def sh_z46z_L4 : SSt := mkSh 34 1 [(0, .sl 38), (9, .sl 38), (10, .int .i64), (11, .int .i64)] []
def LP_z46z_L4 (g : C_z46z) (n : Nat) : LPT A := fun ps => match ps with | [.d (.sl 38 p1), .d (.sl 38 p2), .d (.int .i64 p3), .d (.int .i64 p4)] => fun K => z46z_L4 g n p1 p2 p3 p4 (fun z0 => K .ret (mkSt 34 1 [(2, .d (.int .i64 z0))] [])) (K (.exit 0) (mkSt 34 1 [] [])) | _ => fun _ => none
noncomputable def code_32 : Code := (Tryz.f32.body).getD .skip
noncomputable def E_z46z (g : C_z46z) : Env A := mkE [(72, SS_z61z g.z61z), (73, SS_z51z g.z51z)] [(4, [0])] [(4, ⟨[0, 9, 10, 11], [], [], [], [], [], []⟩)] [(4, ⟨[2], [], [], [], [], [], []⟩)] [(4, pieceOf sh_z46z_L4 (LP_z46z_L4 g g.N))] [] [] [] [] []
theorem ct_z46z [Fuel] : NatTab (E_z46z I_z46z).C := ct_of (P := Tryz.prog) (T := T) (.cons ok_z61z (.cons ok_z51z .nil)) (by kernel_rfl)
noncomputable def cb_z46z_L4 : Code := sub [1, 1, 0, 1, 0, 0] code_32
theorem s_z46z_L4 (g : C_z46z) (n : Nat) : StepOk (E_z46z g) g.N cb_z46z_L4 sh_z46z_L4 (LP_z46z_L4 g) n := by intro ps; unfold LP_z46z_L4; split; exact .inr fun R K => (by kernel_rfl); exact .inl fun R K => rfl
theorem lf_z46z_L4 [Fuel] : LoopFine (E_z46z I_z46z) NN cb_z46z_L4 := fine_loop sh_z46z_L4 (LP_z46z_L4 I_z46z) (by kernel_rfl) ct_z46z (cuts0 (fun _ => rfl) (by kernel_rfl)) (fun ps R K => by unfold LP_z46z_L4; split <;> (try unfold z46z_L4) <;> rfl) (s_z46z_L4 I_z46z)
theorem sm_z46z (g : C_z46z) : Same (SS_z46z (@z46z_ g)) (abody (E_z46z g) Tryz.f32 code_32 1 [] [.asis] g.N) := by intro args; unfold SS_z46z; split; exact .inr fun R k => (by kernel_rfl); exact .inl fun R k => rfl
theorem ok_z46z [Fuel] : Ok 32 (SS_z46z (@z46z _)) := okF_of std (.cons ok_z61z (.cons ok_z51z .nil)) ⟨rfl, rfl, by kernel_rfl, rfl, rfl, rfl⟩ (sm_z46z I_z46z) (cutsL (fun _ => rfl) (.cons lf_z46z_L4 .nil) (by kernel_rfl)) Tryz.func32 (by kernel_rfl) (by kernel_rfl)
abbrev T_z74z : Type 1 := Int → Int → Int → {R : Type} → (Int → Option R) → Option R
structure C_z74z where
 N : Nat
 z44z : T_z44z
 z55z : T_z55z
def z74z_ (g : C_z74z) (a1 a2 a3 : Int) {R : Type} (k0 : Int → Option R) : Option R :=
 (g.z44z a1 1 86400000 (fun r4 => (bif r4 then k0 1 else (g.z55z a2 (fun r5 => (bif (!r5) then k0 1 else (g.z44z a3 0 30000000000 (fun r6 => (bif r6 then k0 1 else k0 0)))))))))
noncomputable def I_z74z [Fuel] : C_z74z := ⟨NN, @z44z _, @z55z _⟩
noncomputable def z74z [Fuel] : T_z74z := @z74z_ I_z74z
def SS_z74z (g : T_z74z) : Spec A := fun args => match args with | [.d (.int .i64 a1), .d (.int .i64 a2), .d (.int .i64 a3)] => fun k => g a1 a2 a3 (fun z0 => k (.d (.int .i64 z0)) [.undef, .undef, .undef]) | _ => fun _ => none
noncomputable def code_34 : Code := (Tryz.f34.body).getD .skip
noncomputable def E_z74z (g : C_z74z) : Env A := mkE [(42, SS_z44z g.z44z), (74, SS_z55z g.z55z)] [] [] [] [] [] [] [] [] []
theorem sm_z74z (g : C_z74z) : Same (SS_z74z (@z74z_ g)) (abody (E_z74z g) Tryz.f34 code_34 0 [] [.asis] g.N) := by intro args; unfold SS_z74z; split; exact .inr fun R k => (by kernel_rfl); exact .inl fun R k => rfl
theorem ok_z74z [Fuel] : Ok 34 (SS_z74z (@z74z _)) := okF_of std (.cons ok_z44z (.cons ok_z55z .nil)) ⟨rfl, rfl, by kernel_rfl, rfl, rfl, rfl⟩ (sm_z74z I_z74z) (cuts0 (fun _ => rfl) (by kernel_rfl)) Tryz.func34 (by kernel_rfl) (by kernel_rfl)
abbrev T_z75z : Type 1 := List UInt8 → {R : Type} → (List UInt8 → Option R) → Option R
structure C_z75z where
 N : Nat
 call_Parts : T_call_Parts
def z75z_ (g : C_z75z) (a1 : List UInt8) {R : Type} (k0 : List UInt8 → Option R) : Option R :=
 (g.call_Parts a1 (fun r2 r3 => k0 r2.f_Base))
noncomputable def I_z75z [Fuel] : C_z75z := ⟨NN, @call_Parts _⟩
noncomputable def z75z [Fuel] : T_z75z := @z75z_ I_z75z
def SS_z75z (g : T_z75z) : Spec A := fun args => match args with | [.d (.str a1)] => fun k => g a1 (fun z0 => k (.d (.str z0)) [.undef]) | _ => fun _ => none
noncomputable def code_35 : Code := (Tryz.f35.body).getD .skip
noncomputable def E_z75z (g : C_z75z) : Env A := mkE [(75, SS_call_Parts g.call_Parts)] [(3, [0])] [] [] [] [] [] [] [] []
theorem sm_z75z (g : C_z75z) : Same (SS_z75z (@z75z_ g)) (abody (E_z75z g) Tryz.f35 code_35 1 [] [.asis] g.N) := by intro args; unfold SS_z75z; split; exact .inr fun R k => (by kernel_rfl); exact .inl fun R k => rfl
theorem ok_z75z [Fuel] : Ok 35 (SS_z75z (@z75z _)) := okF_of std (.cons ok_call_Parts .nil) ⟨rfl, rfl, by kernel_rfl, rfl, rfl, rfl⟩ (sm_z75z I_z75z) (cuts0 (fun _ => rfl) (by kernel_rfl)) Tryz.func35 (by kernel_rfl) (by kernel_rfl)
abbrev T_z77z : Type 1 := List G_Spot → {R : Type} → (List G_Spot → Option R) → Option R
def z77z_ (g : Nat) (a1 : List G_Spot) {R : Type} (k0 : List G_Spot → Option R) : Option R :=
 k0 a1
noncomputable def z77z [Fuel] : T_z77z := @z77z_ NN
def SS_z77z (g : T_z77z) : Spec A := fun args => match args with | [.d (.sl 42 a1)] => fun k => g a1 (fun z0 => k (.fn 127 [.box [.d (.sl 42 z0)]]) [.undef]) | _ => fun _ => none
noncomputable def code_76 : Code := (Tryz.f76.body).getD .skip
noncomputable def E_z77z (g : Nat) : Env A := mkE [] [(1, [0])] [] [] [] [] [] [] [] []
theorem sm_z77z (g : Nat) : Same (SS_z77z (@z77z_ g)) (abody (E_z77z g) Tryz.f76 code_76 1 [] [.asis] g) := by intro args; unfold SS_z77z; split; exact .inr fun R k => (by kernel_rfl); exact .inl fun R k => rfl
theorem ok_z77z [Fuel] : Ok 76 (SS_z77z (@z77z _)) := okF_of std .nil ⟨rfl, rfl, by kernel_rfl, rfl, rfl, rfl⟩ (sm_z77z NN) (cuts0 (fun _ => rfl) (by kernel_rfl)) Tryz.func76 (by kernel_rfl) (by kernel_rfl)
end Go.Am
