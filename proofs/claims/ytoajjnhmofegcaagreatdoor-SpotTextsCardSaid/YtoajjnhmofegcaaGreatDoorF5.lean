/- The functions of the program as Lean functions, each shown to be what the code computes, part 5. No condition: lemmas for the claim. -/
import Derived.Test.YtoajjnhmofegcaaGreatDoorF0
import Derived.Test.YtoajjnhmofegcaaGreatDoorFSh
import Derived.Test.YtoajjnhmofegcaaGreatDoorF3
import Derived.Test.YtoajjnhmofegcaaGreatDoorF4
set_option linter.unusedVariables false
set_option maxRecDepth 100000
namespace Go.Am
open Go Go.Proofs
abbrev T_band_CheckSpots : Type 1 := List G_Spot → {R : Type} → (Int → Option R) → Option R
structure C_band_CheckSpots where
 N : Nat
 kit_IsMoment : T_kit_IsMoment
 kit_Outside : T_kit_Outside
 call_Is : T_call_Is
 band_compareSpots : T_band_compareSpots
def band_CheckSpots_L4 (g : C_band_CheckSpots) : Nat → List G_Spot → List G_Spot → Int → Int → {R : Type} → (Int → Option R) → Option R → Option R
 | 0, _, _, _, _, _, _, _ => none
 | n + 1, v2, v3, v4, v5, _, e0, e1 => (bif (decide (v5 < v4)) then (get_ v3 v5 fun x13 => (g.kit_IsMoment x13.f_At (fun r14 => (bif (!r14) then e0 1 else (g.kit_Outside x13.f_Hertz 0 30000000000 (fun r15 => (bif r15 then e0 1 else (g.call_Is x13.f_Call (fun r16 => (bif (!r16) then e0 3 else (g.call_Is x13.f_By (fun r17 => (bif (!r17) then e0 3 else (bif (decide (v5 > 0)) then (get_ v2 (w64 (v5 - 1)) fun x18 => (g.band_compareSpots x18 x13 (fun r19 => (bif (decide (r19 ≥ 0)) then e0 7 else band_CheckSpots_L4 g n v2 v3 v4 (w64 (v5 + 1)) e0 e1)))) else band_CheckSpots_L4 g n v2 v3 v4 (w64 (v5 + 1)) e0 e1)))))))))))))) else e1)
def band_CheckSpots_ (g : C_band_CheckSpots) (a1 : List G_Spot) {R : Type} (k0 : Int → Option R) : Option R :=
 (bif (decide ((a1.length : Int) > 2000)) then k0 2 else (band_CheckSpots_L4 g g.N a1 a1 (a1.length : Int) 0 (fun e20 => k0 e20) (k0 0)))
noncomputable def I_band_CheckSpots [Fuel] : C_band_CheckSpots := ⟨NN, @kit_IsMoment _, @kit_Outside _, @call_Is _, @band_compareSpots _⟩
noncomputable def band_CheckSpots [Fuel] : T_band_CheckSpots := @band_CheckSpots_ I_band_CheckSpots
def SS_band_CheckSpots (g : T_band_CheckSpots) : Spec A := fun args => match args with | [.d (.sl 61 a1)] => fun k => g a1 (fun z0 => k (.d (.int .i64 z0)) [.undef]) | _ => fun _ => none
def sh_band_CheckSpots_L4 : SSt := mkSh 50 1 [(0, .sl 61), (8, .sl 61), (9, .int .i64), (10, .int .i64)] []
def LP_band_CheckSpots_L4 (g : C_band_CheckSpots) (n : Nat) : LPT A := fun ps => match ps with | [.d (.sl 61 p1), .d (.sl 61 p2), .d (.int .i64 p3), .d (.int .i64 p4)] => fun K => band_CheckSpots_L4 g n p1 p2 p3 p4 (fun z0 => K .ret (mkSt 50 1 [(2, .d (.int .i64 z0))] [])) (K (.exit 0) (mkSt 50 1 [] [])) | _ => fun _ => none
noncomputable def code_98 : Code := (Tryz.f98.body).getD .skip
noncomputable def E_band_CheckSpots (g : C_band_CheckSpots) : Env A := mkE [(133, SS_kit_IsMoment g.kit_IsMoment), (134, SS_kit_Outside g.kit_Outside), (136, SS_call_Is g.call_Is), (150, SS_band_compareSpots g.band_compareSpots)] [(4, [0])] [(4, ⟨[0, 8, 9, 10], [], [], [], [], [], []⟩)] [(4, ⟨[2], [], [], [], [], [], []⟩)] [(4, pieceOf sh_band_CheckSpots_L4 (LP_band_CheckSpots_L4 g g.N))] [] [] [] [] []
theorem ct_band_CheckSpots [Fuel] : NatTab (E_band_CheckSpots I_band_CheckSpots).C := ct_of (P := Tryz.prog) (T := T) (.cons ok_kit_IsMoment (.cons ok_kit_Outside (.cons ok_call_Is (.cons ok_band_compareSpots .nil)))) (by kernel_rfl)
noncomputable def cb_band_CheckSpots_L4 : Code := sub [1, 1, 0, 1, 0, 0] code_98
theorem s_band_CheckSpots_L4 (g : C_band_CheckSpots) (n : Nat) : StepOk (E_band_CheckSpots g) g.N cb_band_CheckSpots_L4 sh_band_CheckSpots_L4 (LP_band_CheckSpots_L4 g) n := by intro ps; unfold LP_band_CheckSpots_L4; split; exact .inr fun R K => (by kernel_rfl); exact .inl fun R K => rfl
theorem lf_band_CheckSpots_L4 [Fuel] : LoopFine (E_band_CheckSpots I_band_CheckSpots) NN cb_band_CheckSpots_L4 := fine_loop sh_band_CheckSpots_L4 (LP_band_CheckSpots_L4 I_band_CheckSpots) (by kernel_rfl) ct_band_CheckSpots (cuts0 (fun _ => rfl) (by kernel_rfl)) (fun ps R K => by unfold LP_band_CheckSpots_L4; split <;> (try unfold band_CheckSpots_L4) <;> rfl) (s_band_CheckSpots_L4 I_band_CheckSpots)
theorem sm_band_CheckSpots (g : C_band_CheckSpots) : Same (SS_band_CheckSpots (@band_CheckSpots_ g)) (abody (E_band_CheckSpots g) Tryz.f98 code_98 1 [] [.asis] g.N) := by intro args; unfold SS_band_CheckSpots; split; exact .inr fun R k => (by kernel_rfl); exact .inl fun R k => rfl
theorem ok_band_CheckSpots [Fuel] : Ok 98 (SS_band_CheckSpots (@band_CheckSpots _)) := okF_of std (.cons ok_kit_IsMoment (.cons ok_kit_Outside (.cons ok_call_Is (.cons ok_band_compareSpots .nil)))) ⟨rfl, rfl, by kernel_rfl, rfl, rfl, rfl⟩ (sm_band_CheckSpots I_band_CheckSpots) (cutsL (fun _ => rfl) (.cons lf_band_CheckSpots_L4 .nil) (by kernel_rfl)) Tryz.func98 (by kernel_rfl) (by kernel_rfl)
abbrev T_kit_Join : Type 1 := List (List UInt8) → {R : Type} → (List UInt8 → Option R) → Option R
structure C_kit_Join where
 N : Nat
 strings_Join : T_strings_Join
def kit_Join_ (g : C_kit_Join) (a1 : List (List UInt8)) {R : Type} (k0 : List UInt8 → Option R) : Option R :=
 (g.strings_Join a1 [32] (fun r2 => (bif (strOk r2 [10]) then k0 (r2 ++ [10]) else none)))
noncomputable def I_kit_Join [Fuel] : C_kit_Join := ⟨NN, @strings_Join _⟩
noncomputable def kit_Join [Fuel] : T_kit_Join := @kit_Join_ I_kit_Join
def SS_kit_Join (g : T_kit_Join) : Spec A := fun args => match args with | [.d (.sl 9 a1)] => fun k => g a1 (fun z0 => k (.d (.str z0)) [.undef]) | _ => fun _ => none
noncomputable def code_78 : Code := (Tryz.f78.body).getD .skip
noncomputable def E_kit_Join (g : C_kit_Join) : Env A := mkE [(86, SS_strings_Join g.strings_Join)] [] [] [] [] [] [] [] [] []
theorem sm_kit_Join (g : C_kit_Join) : Same (SS_kit_Join (@kit_Join_ g)) (abody (E_kit_Join g) Tryz.f78 code_78 0 [] [.asis] g.N) := by intro args; unfold SS_kit_Join; split; exact .inr fun R k => (by kernel_rfl); exact .inl fun R k => rfl
theorem ok_kit_Join [Fuel] : Ok 78 (SS_kit_Join (@kit_Join _)) := okF_of std (.cons ok_strings_Join .nil) ⟨rfl, rfl, by kernel_rfl, rfl, rfl, rfl⟩ (sm_kit_Join I_kit_Join) (cuts0 (fun _ => rfl) (by kernel_rfl)) Tryz.func78 (by kernel_rfl) (by kernel_rfl)
abbrev T_band_Text : Type 1 := List G_Spot → {R : Type} → (List UInt8 → Int → Option R) → Option R
structure C_band_Text where
 N : Nat
 kit_Join : T_kit_Join
 strconv_Itoa : T_strconv_Itoa
 band_CheckSpots : T_band_CheckSpots
def band_Text_L6 (g : C_band_Text) : Nat → List G_Spot → Int → Int → List UInt8 → {R : Type} → (List UInt8 → Option R) → Option R
 | 0, _, _, _, _, _, _ => none
 | n + 1, v3, v4, v5, v6, _, e0 => (bif (decide (v5 < v4)) then (get_ v3 v5 fun x11 => (g.strconv_Itoa x11.f_At (fun r12 => (g.strconv_Itoa x11.f_Hertz (fun r13 => (g.kit_Join [r12, r13, x11.f_Call, x11.f_By] (fun r14 => (bif (decide (v6.length + r14.length ≤ 140737488355328)) then band_Text_L6 g n v3 v4 (w64 (v5 + 1)) (v6 ++ r14) e0 else none)))))))) else e0 v6)
def band_Text_ (g : C_band_Text) (a1 : List G_Spot) {R : Type} (k0 : List UInt8 → Int → Option R) : Option R :=
 (g.band_CheckSpots a1 (fun r2 => (bif (r2 != 0) then k0 [] r2 else (band_Text_L6 g g.N a1 (a1.length : Int) 0 [] (fun e15 => (bif (decide ((e15.length : Int) > 200000)) then k0 [] 2 else k0 e15 0))))))
noncomputable def I_band_Text [Fuel] : C_band_Text := ⟨NN, @kit_Join _, @strconv_Itoa _, @band_CheckSpots _⟩
noncomputable def band_Text [Fuel] : T_band_Text := @band_Text_ I_band_Text
def SS_band_Text (g : T_band_Text) : Spec A := fun args => match args with | [.d (.sl 61 a1)] => fun k => g a1 (fun z0 z1 => k (.tup [.d (.str z0), .d (.int .i64 z1)]) [.undef]) | _ => fun _ => none
def sh_band_Text_L6 : SSt := mkSh 36 3 [(5, .ptr 0 0), (13, .sl 61), (14, .int .i64), (15, .int .i64)] [(0, .bld)]
def LP_band_Text_L6 (g : C_band_Text) (n : Nat) : LPT A := fun ps => match ps with | [.d (.sl 61 p1), .d (.int .i64 p2), .d (.int .i64 p3), .d (.str p4)] => fun K => band_Text_L6 g n p1 p2 p3 p4 (fun z0 => K (.exit 0) (mkSt 36 3 [(5, .ptr 0 0)] [(0, some (.bld z0))])) | _ => fun _ => none
noncomputable def code_28 : Code := (Tryz.f28.body).getD .skip
noncomputable def E_band_Text (g : C_band_Text) : Env A := mkE [(78, SS_kit_Join g.kit_Join), (79, SS_strconv_Itoa g.strconv_Itoa), (98, SS_band_CheckSpots g.band_CheckSpots)] [(5, [0]), (7, [1]), (29, [2])] [(6, ⟨[5, 13, 14, 15], [], [0], [], [], [], []⟩)] [(6, ⟨[5], [], [0], [], [], [], []⟩)] [(6, pieceOf sh_band_Text_L6 (LP_band_Text_L6 g g.N))] [] [] [] [] []
theorem ct_band_Text [Fuel] : NatTab (E_band_Text I_band_Text).C := ct_of (P := Tryz.prog) (T := T) (.cons ok_kit_Join (.cons ok_strconv_Itoa (.cons ok_band_CheckSpots .nil))) (by kernel_rfl)
noncomputable def cb_band_Text_L6 : Code := sub [1, 1, 1, 0, 1, 0, 0] code_28
theorem s_band_Text_L6 (g : C_band_Text) (n : Nat) : StepOk (E_band_Text g) g.N cb_band_Text_L6 sh_band_Text_L6 (LP_band_Text_L6 g) n := by intro ps; unfold LP_band_Text_L6; split; exact .inr fun R K => (by kernel_rfl); exact .inl fun R K => rfl
theorem lf_band_Text_L6 [Fuel] : LoopFine (E_band_Text I_band_Text) NN cb_band_Text_L6 := fine_loop sh_band_Text_L6 (LP_band_Text_L6 I_band_Text) (by kernel_rfl) ct_band_Text (cuts0 (fun _ => rfl) (by kernel_rfl)) (fun ps R K => by unfold LP_band_Text_L6; split <;> (try unfold band_Text_L6) <;> rfl) (s_band_Text_L6 I_band_Text)
theorem sm_band_Text (g : C_band_Text) : Same (SS_band_Text (@band_Text_ g)) (abody (E_band_Text g) Tryz.f28 code_28 3 [] [.asis, .asis] g.N) := by intro args; unfold SS_band_Text; split; exact .inr fun R k => (by kernel_rfl); exact .inl fun R k => rfl
theorem ok_band_Text [Fuel] : Ok 28 (SS_band_Text (@band_Text _)) := okF_of std (.cons ok_kit_Join (.cons ok_strconv_Itoa (.cons ok_band_CheckSpots .nil))) ⟨rfl, rfl, by kernel_rfl, rfl, rfl, rfl⟩ (sm_band_Text I_band_Text) (cutsL (fun _ => rfl) (.cons lf_band_Text_L6 .nil) (by kernel_rfl)) Tryz.func28 (by kernel_rfl) (by kernel_rfl)
abbrev T_stringslite_HasSuffix : Type 1 := List UInt8 → List UInt8 → {R : Type} → (Bool → Option R) → Option R
def stringslite_HasSuffix_ (g : Nat) (a1 a2 : List UInt8) {R : Type} (k0 : Bool → Option R) : Option R :=
 (bif (decide ((a1.length : Int) ≥ (a2.length : Int))) then (bif (decide (0 ≤ (w64 ((a1.length : Int) - (a2.length : Int)))) && decide ((w64 ((a1.length : Int) - (a2.length : Int))) ≤ (a1.length : Int))) then k0 ((a1.drop ((w64 ((a1.length : Int) - (a2.length : Int))) : Int).toNat) == a2) else none) else k0 false)
noncomputable def stringslite_HasSuffix [Fuel] : T_stringslite_HasSuffix := @stringslite_HasSuffix_ NN
def SS_stringslite_HasSuffix (g : T_stringslite_HasSuffix) : Spec A := fun args => match args with | [.d (.str a1), .d (.str a2)] => fun k => g a1 a2 (fun z0 => k (.d (.bool z0)) [.undef, .undef]) | _ => fun _ => none
noncomputable def code_214 : Code := (Tryz.f214.body).getD .skip
noncomputable def E_stringslite_HasSuffix (g : Nat) : Env A := mkE [] [] [] [] [] [] [] [] [] []
theorem sm_stringslite_HasSuffix (g : Nat) : Same (SS_stringslite_HasSuffix (@stringslite_HasSuffix_ g)) (abody (E_stringslite_HasSuffix g) Tryz.f214 code_214 0 [] [.asis] g) := by intro args; unfold SS_stringslite_HasSuffix; split; exact .inr fun R k => (by kernel_rfl); exact .inl fun R k => rfl
theorem ok_stringslite_HasSuffix [Fuel] : Ok 214 (SS_stringslite_HasSuffix (@stringslite_HasSuffix _)) := okF_of std .nil ⟨rfl, rfl, by kernel_rfl, rfl, rfl, rfl⟩ (sm_stringslite_HasSuffix NN) (cuts0 (fun _ => rfl) (by kernel_rfl)) Tryz.func214 (by kernel_rfl) (by kernel_rfl)
abbrev T_stringslite_CutSuffix : Type 1 := List UInt8 → List UInt8 → {R : Type} → (List UInt8 → Bool → Option R) → Option R
structure C_stringslite_CutSuffix where
 N : Nat
 stringslite_HasSuffix : T_stringslite_HasSuffix
def stringslite_CutSuffix_ (g : C_stringslite_CutSuffix) (a1 a2 : List UInt8) {R : Type} (k0 : List UInt8 → Bool → Option R) : Option R :=
 (g.stringslite_HasSuffix a1 a2 (fun r3 => (bif (!r3) then k0 a1 false else (bif (decide (0 ≤ (w64 ((a1.length : Int) - (a2.length : Int)))) && decide ((w64 ((a1.length : Int) - (a2.length : Int))) ≤ (a1.length : Int))) then k0 (a1.take ((w64 ((a1.length : Int) - (a2.length : Int))) : Int).toNat) true else none))))
noncomputable def I_stringslite_CutSuffix [Fuel] : C_stringslite_CutSuffix := ⟨NN, @stringslite_HasSuffix _⟩
noncomputable def stringslite_CutSuffix [Fuel] : T_stringslite_CutSuffix := @stringslite_CutSuffix_ I_stringslite_CutSuffix
def SS_stringslite_CutSuffix (g : T_stringslite_CutSuffix) : Spec A := fun args => match args with | [.d (.str a1), .d (.str a2)] => fun k => g a1 a2 (fun z0 z1 => k (.tup [.d (.str z0), .d (.bool z1)]) [.undef, .undef]) | _ => fun _ => none
noncomputable def code_171 : Code := (Tryz.f171.body).getD .skip
noncomputable def E_stringslite_CutSuffix (g : C_stringslite_CutSuffix) : Env A := mkE [(214, SS_stringslite_HasSuffix g.stringslite_HasSuffix)] [] [] [] [] [] [] [] [] []
theorem sm_stringslite_CutSuffix (g : C_stringslite_CutSuffix) : Same (SS_stringslite_CutSuffix (@stringslite_CutSuffix_ g)) (abody (E_stringslite_CutSuffix g) Tryz.f171 code_171 0 [] [.asis, .asis] g.N) := by intro args; unfold SS_stringslite_CutSuffix; split; exact .inr fun R k => (by kernel_rfl); exact .inl fun R k => rfl
theorem ok_stringslite_CutSuffix [Fuel] : Ok 171 (SS_stringslite_CutSuffix (@stringslite_CutSuffix _)) := okF_of std (.cons ok_stringslite_HasSuffix .nil) ⟨rfl, rfl, by kernel_rfl, rfl, rfl, rfl⟩ (sm_stringslite_CutSuffix I_stringslite_CutSuffix) (cuts0 (fun _ => rfl) (by kernel_rfl)) Tryz.func171 (by kernel_rfl) (by kernel_rfl)
abbrev T_strings_CutSuffix : Type 1 := List UInt8 → List UInt8 → {R : Type} → (List UInt8 → Bool → Option R) → Option R
structure C_strings_CutSuffix where
 N : Nat
 stringslite_CutSuffix : T_stringslite_CutSuffix
def strings_CutSuffix_ (g : C_strings_CutSuffix) (a1 a2 : List UInt8) {R : Type} (k0 : List UInt8 → Bool → Option R) : Option R :=
 (g.stringslite_CutSuffix a1 a2 (fun r3 r4 => k0 r3 r4))
noncomputable def I_strings_CutSuffix [Fuel] : C_strings_CutSuffix := ⟨NN, @stringslite_CutSuffix _⟩
noncomputable def strings_CutSuffix [Fuel] : T_strings_CutSuffix := @strings_CutSuffix_ I_strings_CutSuffix
def SS_strings_CutSuffix (g : T_strings_CutSuffix) : Spec A := fun args => match args with | [.d (.str a1), .d (.str a2)] => fun k => g a1 a2 (fun z0 z1 => k (.tup [.d (.str z0), .d (.bool z1)]) [.undef, .undef]) | _ => fun _ => none
noncomputable def code_125 : Code := (Tryz.f125.body).getD .skip
noncomputable def E_strings_CutSuffix (g : C_strings_CutSuffix) : Env A := mkE [(171, SS_stringslite_CutSuffix g.stringslite_CutSuffix)] [] [] [] [] [] [] [] [] []
theorem sm_strings_CutSuffix (g : C_strings_CutSuffix) : Same (SS_strings_CutSuffix (@strings_CutSuffix_ g)) (abody (E_strings_CutSuffix g) Tryz.f125 code_125 0 [] [.asis, .asis] g.N) := by intro args; unfold SS_strings_CutSuffix; split; exact .inr fun R k => (by kernel_rfl); exact .inl fun R k => rfl
theorem ok_strings_CutSuffix [Fuel] : Ok 125 (SS_strings_CutSuffix (@strings_CutSuffix _)) := okF_of std (.cons ok_stringslite_CutSuffix .nil) ⟨rfl, rfl, by kernel_rfl, rfl, rfl, rfl⟩ (sm_strings_CutSuffix I_strings_CutSuffix) (cuts0 (fun _ => rfl) (by kernel_rfl)) Tryz.func125 (by kernel_rfl) (by kernel_rfl)
abbrev T_strings_Count : Type 1 := List UInt8 → List UInt8 → {R : Type} → (Int → Option R) → Option R
def strings_Count [Fuel] : T_strings_Count := @X_cnt1
def SS_strings_Count (g : T_strings_Count) : Spec A := SSX_cnt1 g
theorem ok_strings_Count [Fuel] : Ok 216 (SS_strings_Count (@strings_Count _)) := ⟨ssx_cnt1_sound (cnt1_sound (Any.strings_Count_one Tryz.lays138)), ssx_cnt1_nat, enters_of (fn := Tryz.f216) Tryz.func216 (by kernel_rfl) (by kernel_rfl)⟩
abbrev T_strings_genSplit : Type 1 := List UInt8 → List UInt8 → Int → Int → {R : Type} → (List (List UInt8) → Option R) → Option R
structure C_strings_genSplit where
 N : Nat
 strings_Count : T_strings_Count
 strings_Index : T_strings_Index
def strings_genSplit_L11 (g : C_strings_genSplit) : Nat → List UInt8 → List UInt8 → Int → Int → Int → List (List UInt8) → {R : Type} → (List UInt8 → Int → List (List UInt8) → Option R) → Option R
 | 0, _, _, _, _, _, _, _, _ => none
 | n + 1, v6, v7, v8, v9, v10, v11, _, e0 => (bif (decide (v10 < v9)) then (g.strings_Index v6 v7 (fun r14 => (bif (decide (r14 < 0)) then e0 v6 v10 v11 else (bif (decide (0 ≤ (w64 (r14 + v8))) && decide ((w64 (r14 + v8)) ≤ (v6.length : Int))) then (inr v11 v10 (at_ v11 v10 fun x15 => (bif (decide (0 ≤ (w64 (r14 + (v7.length : Int)))) && decide ((w64 (r14 + (v7.length : Int))) ≤ (v6.length : Int))) then strings_genSplit_L11 g n (v6.drop ((w64 (r14 + (v7.length : Int))) : Int).toNat) v7 v8 v9 (w64 (v10 + 1)) (set_ v11 v10 (v6.take ((w64 (r14 + v8)) : Int).toNat)) e0 else none))) else none)))) else e0 v6 v10 v11)
def strings_genSplit_ (g : C_strings_genSplit) (a1 a2 : List UInt8) (a3 a4 : Int) {R : Type} (k0 : List (List UInt8) → Option R) : Option R :=
 (bif (a4 == 0) then k0 [] else (bif (a2 == []) then none else (bif (decide (a4 < 0)) then (g.strings_Count a1 a2 (fun r5 => (bif (decide (0 ≤ (if (w64 ((a1.length : Int) + 1)) < (w64 (r5 + 1)) then (w64 ((a1.length : Int) + 1)) else (w64 (r5 + 1)))) && (decide ((if (w64 ((a1.length : Int) + 1)) < (w64 (r5 + 1)) then (w64 ((a1.length : Int) + 1)) else (w64 (r5 + 1))) ≤ (if (w64 ((a1.length : Int) + 1)) < (w64 (r5 + 1)) then (w64 ((a1.length : Int) + 1)) else (w64 (r5 + 1)))) && decide ((if (w64 ((a1.length : Int) + 1)) < (w64 (r5 + 1)) then (w64 ((a1.length : Int) + 1)) else (w64 (r5 + 1))) * (16 : Nat) ≤ 140737488355328))) then (strings_genSplit_L11 g g.N a1 a2 a3 (w64 ((if (w64 ((a1.length : Int) + 1)) < (w64 (r5 + 1)) then (w64 ((a1.length : Int) + 1)) else (w64 (r5 + 1))) - 1)) 0 (List.replicate ((if (w64 ((a1.length : Int) + 1)) < (w64 (r5 + 1)) then (w64 ((a1.length : Int) + 1)) else (w64 (r5 + 1))) : Int).toNat []) (fun e16 e17 e18 => (inr e18 e17 (at_ e18 e17 fun x19 => (bif (decide (0 ≤ (w64 (e17 + 1))) && decide ((w64 (e17 + 1)) ≤ ((set_ e18 e17 e16).length : Int))) then k0 ((set_ e18 e17 e16).take ((w64 (e17 + 1)) : Int).toNat) else none))))) else none))) else (bif (decide (0 ≤ (if (w64 ((a1.length : Int) + 1)) < a4 then (w64 ((a1.length : Int) + 1)) else a4)) && (decide ((if (w64 ((a1.length : Int) + 1)) < a4 then (w64 ((a1.length : Int) + 1)) else a4) ≤ (if (w64 ((a1.length : Int) + 1)) < a4 then (w64 ((a1.length : Int) + 1)) else a4)) && decide ((if (w64 ((a1.length : Int) + 1)) < a4 then (w64 ((a1.length : Int) + 1)) else a4) * (16 : Nat) ≤ 140737488355328))) then (strings_genSplit_L11 g g.N a1 a2 a3 (w64 ((if (w64 ((a1.length : Int) + 1)) < a4 then (w64 ((a1.length : Int) + 1)) else a4) - 1)) 0 (List.replicate ((if (w64 ((a1.length : Int) + 1)) < a4 then (w64 ((a1.length : Int) + 1)) else a4) : Int).toNat []) (fun e20 e21 e22 => (inr e22 e21 (at_ e22 e21 fun x23 => (bif (decide (0 ≤ (w64 (e21 + 1))) && decide ((w64 (e21 + 1)) ≤ ((set_ e22 e21 e20).length : Int))) then k0 ((set_ e22 e21 e20).take ((w64 (e21 + 1)) : Int).toNat) else none))))) else none))))
noncomputable def I_strings_genSplit [Fuel] : C_strings_genSplit := ⟨NN, @strings_Count _, @strings_Index _⟩
noncomputable def strings_genSplit [Fuel] : T_strings_genSplit := @strings_genSplit_ I_strings_genSplit
def SS_strings_genSplit (g : T_strings_genSplit) : Spec A := fun args => match args with | [.d (.str a1), .d (.str a2), .d (.int .i64 a3), .d (.int .i64 a4)] => fun k => g a1 a2 a3 a4 (fun z0 => k (.arr 9 z0) [.undef, .undef, .undef, .undef]) | _ => fun _ => none
def sh_strings_genSplit_L11 : SSt := mkSh 66 2 [(0, .str), (1, .str), (2, .int .i64), (3, .int .i64), (9, .own 9 0), (10, .int .i64)] [(0, .row 9)]
def LP_strings_genSplit_L11 (g : C_strings_genSplit) (n : Nat) : LPT A := fun ps => match ps with | [.d (.str p1), .d (.str p2), .d (.int .i64 p3), .d (.int .i64 p4), .d (.int .i64 p5), .d (.sl 9 p6)] => fun K => strings_genSplit_L11 g n p1 p2 p3 p4 p5 p6 (fun z0 z1 z2 => K (.exit 0) (mkSt 66 2 [(0, .d (.str z0)), (9, .own 9 0), (10, .d (.int .i64 z1))] [(0, some (.row 9 z2))])) | _ => fun _ => none
noncomputable def code_172 : Code := (Tryz.f172.body).getD .skip
noncomputable def E_strings_genSplit (g : C_strings_genSplit) : Env A := mkE [(216, SS_strings_Count g.strings_Count), (217, SS_strings_Index g.strings_Index)] [(31, [0]), (65, [1])] [(11, ⟨[0, 1, 2, 3, 9, 10], [], [0], [], [], [], []⟩)] [(11, ⟨[0, 9, 10], [], [0], [], [], [], []⟩)] [(11, pieceOf sh_strings_genSplit_L11 (LP_strings_genSplit_L11 g g.N))] [] [] [] [] []
theorem ct_strings_genSplit [Fuel] : NatTab (E_strings_genSplit I_strings_genSplit).C := ct_of (P := Tryz.prog) (T := T) (.cons ok_strings_Count (.cons ok_strings_Index .nil)) (by kernel_rfl)
noncomputable def cb_strings_genSplit_L11 : Code := sub [1, 1, 1, 1, 1, 1, 1, 1, 0, 0, 0] code_172
theorem s_strings_genSplit_L11 (g : C_strings_genSplit) (n : Nat) : StepOk (E_strings_genSplit g) g.N cb_strings_genSplit_L11 sh_strings_genSplit_L11 (LP_strings_genSplit_L11 g) n := by intro ps; unfold LP_strings_genSplit_L11; split; exact .inr fun R K => (by kernel_rfl); exact .inl fun R K => rfl
theorem lf_strings_genSplit_L11 [Fuel] : LoopFine (E_strings_genSplit I_strings_genSplit) NN cb_strings_genSplit_L11 := fine_loop sh_strings_genSplit_L11 (LP_strings_genSplit_L11 I_strings_genSplit) (by kernel_rfl) ct_strings_genSplit (cuts0 (fun _ => rfl) (by kernel_rfl)) (fun ps R K => by unfold LP_strings_genSplit_L11; split <;> (try unfold strings_genSplit_L11) <;> rfl) (s_strings_genSplit_L11 I_strings_genSplit)
theorem sm_strings_genSplit (g : C_strings_genSplit) : Same (SS_strings_genSplit (@strings_genSplit_ g)) (abody (E_strings_genSplit g) Tryz.f172 code_172 2 [] [.arr 9] g.N) := by intro args; unfold SS_strings_genSplit; split; exact .inr fun R k => (by kernel_rfl); exact .inl fun R k => rfl
theorem ok_strings_genSplit [Fuel] : Ok 172 (SS_strings_genSplit (@strings_genSplit _)) := okF_of std (.cons ok_strings_Count (.cons ok_strings_Index .nil)) ⟨rfl, rfl, by kernel_rfl, rfl, rfl, rfl⟩ (sm_strings_genSplit I_strings_genSplit) (cutsL (fun _ => rfl) (.cons lf_strings_genSplit_L11 .nil) (by kernel_rfl)) Tryz.func172 (by kernel_rfl) (by kernel_rfl)
abbrev T_strings_Split : Type 1 := List UInt8 → List UInt8 → {R : Type} → (List (List UInt8) → Option R) → Option R
structure C_strings_Split where
 N : Nat
 strings_genSplit : T_strings_genSplit
def strings_Split_ (g : C_strings_Split) (a1 a2 : List UInt8) {R : Type} (k0 : List (List UInt8) → Option R) : Option R :=
 (g.strings_genSplit a1 a2 0 (-1) (fun r3 => k0 r3))
noncomputable def I_strings_Split [Fuel] : C_strings_Split := ⟨NN, @strings_genSplit _⟩
noncomputable def strings_Split [Fuel] : T_strings_Split := @strings_Split_ I_strings_Split
def SS_strings_Split (g : T_strings_Split) : Spec A := fun args => match args with | [.d (.str a1), .d (.str a2)] => fun k => g a1 a2 (fun z0 => k (.arr 9 z0) [.undef, .undef]) | _ => fun _ => none
noncomputable def code_126 : Code := (Tryz.f126.body).getD .skip
noncomputable def E_strings_Split (g : C_strings_Split) : Env A := mkE [(172, SS_strings_genSplit g.strings_genSplit)] [(7, [0])] [] [] [] [] [] [] [] []
theorem sm_strings_Split (g : C_strings_Split) : Same (SS_strings_Split (@strings_Split_ g)) (abody (E_strings_Split g) Tryz.f126 code_126 1 [] [.arr 9] g.N) := by intro args; unfold SS_strings_Split; split; exact .inr fun R k => (by kernel_rfl); exact .inl fun R k => rfl
theorem ok_strings_Split [Fuel] : Ok 126 (SS_strings_Split (@strings_Split _)) := okF_of std (.cons ok_strings_genSplit .nil) ⟨rfl, rfl, by kernel_rfl, rfl, rfl, rfl⟩ (sm_strings_Split I_strings_Split) (cuts0 (fun _ => rfl) (by kernel_rfl)) Tryz.func126 (by kernel_rfl) (by kernel_rfl)
abbrev T_kit_Lines : Type 1 := List UInt8 → {R : Type} → (List (List UInt8) → Bool → Option R) → Option R
structure C_kit_Lines where
 N : Nat
 strings_CutSuffix : T_strings_CutSuffix
 strings_Split : T_strings_Split
def kit_Lines_ (g : C_kit_Lines) (a1 : List UInt8) {R : Type} (k0 : List (List UInt8) → Bool → Option R) : Option R :=
 (bif (a1 == []) then k0 [] true else (g.strings_CutSuffix a1 [10] (fun r2 r3 => (g.strings_Split r2 [10] (fun r4 => k0 r4 r3)))))
noncomputable def I_kit_Lines [Fuel] : C_kit_Lines := ⟨NN, @strings_CutSuffix _, @strings_Split _⟩
noncomputable def kit_Lines [Fuel] : T_kit_Lines := @kit_Lines_ I_kit_Lines
def SS_kit_Lines (g : T_kit_Lines) : Spec A := fun args => match args with | [.d (.str a1)] => fun k => g a1 (fun z0 z1 => k (.tup [.arr 9 z0, .d (.bool z1)]) [.undef]) | _ => fun _ => none
noncomputable def code_60 : Code := (Tryz.f60.body).getD .skip
noncomputable def E_kit_Lines (g : C_kit_Lines) : Env A := mkE [(125, SS_strings_CutSuffix g.strings_CutSuffix), (126, SS_strings_Split g.strings_Split)] [(14, [0])] [] [] [] [] [] [] [] []
theorem sm_kit_Lines (g : C_kit_Lines) : Same (SS_kit_Lines (@kit_Lines_ g)) (abody (E_kit_Lines g) Tryz.f60 code_60 1 [] [.arr 9, .asis] g.N) := by intro args; unfold SS_kit_Lines; split; exact .inr fun R k => (by kernel_rfl); exact .inl fun R k => rfl
theorem ok_kit_Lines [Fuel] : Ok 60 (SS_kit_Lines (@kit_Lines _)) := okF_of std (.cons ok_strings_CutSuffix (.cons ok_strings_Split .nil)) ⟨rfl, rfl, by kernel_rfl, rfl, rfl, rfl⟩ (sm_kit_Lines I_kit_Lines) (cuts0 (fun _ => rfl) (by kernel_rfl)) Tryz.func60 (by kernel_rfl) (by kernel_rfl)
abbrev T_kit_Words : Type 1 := List UInt8 → {R : Type} → (List (List UInt8) → Bool → Option R) → Option R
structure C_kit_Words where
 N : Nat
 strings_Split : T_strings_Split
def kit_Words_L3 (g : C_kit_Words) : Nat → Int → Int → List (List UInt8) → {R : Type} → (Bool → List (List UInt8) → Option R) → (List (List UInt8) → Option R) → Option R
 | 0, _, _, _, _, _, _ => none
 | n + 1, v3, v4, v5, _, e0, e1 => (bif (decide (v4 < v3)) then (inr v5 v4 (at_ v5 v4 fun x7 => (bif (x7 == []) then e0 false v5 else kit_Words_L3 g n v3 (w64 (v4 + 1)) v5 e0 e1))) else e1 v5)
def kit_Words_ (g : C_kit_Words) (a1 : List UInt8) {R : Type} (k0 : List (List UInt8) → Bool → Option R) : Option R :=
 (g.strings_Split a1 [32] (fun r2 => (kit_Words_L3 g g.N (r2.length : Int) 0 r2 (fun e8 e9 => k0 [] e8) (fun e10 => k0 e10 true))))
noncomputable def I_kit_Words [Fuel] : C_kit_Words := ⟨NN, @strings_Split _⟩
noncomputable def kit_Words [Fuel] : T_kit_Words := @kit_Words_ I_kit_Words
def SS_kit_Words (g : T_kit_Words) : Spec A := fun args => match args with | [.d (.str a1)] => fun k => g a1 (fun z0 z1 => k (.tup [.arr 9 z0, .d (.bool z1)]) [.undef]) | _ => fun _ => none
def sh_kit_Words_L3 : SSt := mkSh 19 1 [(4, .own 9 0), (9, .own 9 0), (10, .int .i64), (11, .int .i64)] [(0, .row 9)]
def LP_kit_Words_L3 (g : C_kit_Words) (n : Nat) : LPT A := fun ps => match ps with | [.d (.int .i64 p1), .d (.int .i64 p2), .d (.sl 9 p3)] => fun K => kit_Words_L3 g n p1 p2 p3 (fun z0 z1 => K .ret (mkSt 19 1 [(2, .d .nsl), (3, .d (.bool z0)), (4, .own 9 0)] [(0, some (.row 9 z1))])) (fun z0 => K (.exit 0) (mkSt 19 1 [(4, .own 9 0)] [(0, some (.row 9 z0))])) | _ => fun _ => none
noncomputable def code_61 : Code := (Tryz.f61.body).getD .skip
noncomputable def E_kit_Words (g : C_kit_Words) : Env A := mkE [(126, SS_strings_Split g.strings_Split)] [(8, [0])] [(3, ⟨[4, 9, 10, 11], [], [0], [], [], [], []⟩)] [(3, ⟨[2, 3, 4], [], [0], [], [], [], []⟩)] [(3, pieceOf sh_kit_Words_L3 (LP_kit_Words_L3 g g.N))] [] [] [] [] []
theorem ct_kit_Words [Fuel] : NatTab (E_kit_Words I_kit_Words).C := ct_of (P := Tryz.prog) (T := T) (.cons ok_strings_Split .nil) (by kernel_rfl)
noncomputable def cb_kit_Words_L3 : Code := sub [1, 1, 0, 1, 0, 0] code_61
theorem s_kit_Words_L3 (g : C_kit_Words) (n : Nat) : StepOk (E_kit_Words g) g.N cb_kit_Words_L3 sh_kit_Words_L3 (LP_kit_Words_L3 g) n := by intro ps; unfold LP_kit_Words_L3; split; exact .inr fun R K => (by kernel_rfl); exact .inl fun R K => rfl
theorem lf_kit_Words_L3 [Fuel] : LoopFine (E_kit_Words I_kit_Words) NN cb_kit_Words_L3 := fine_loop sh_kit_Words_L3 (LP_kit_Words_L3 I_kit_Words) (by kernel_rfl) ct_kit_Words (cuts0 (fun _ => rfl) (by kernel_rfl)) (fun ps R K => by unfold LP_kit_Words_L3; split <;> (try unfold kit_Words_L3) <;> rfl) (s_kit_Words_L3 I_kit_Words)
theorem sm_kit_Words (g : C_kit_Words) : Same (SS_kit_Words (@kit_Words_ g)) (abody (E_kit_Words g) Tryz.f61 code_61 1 [] [.arr 9, .asis] g.N) := by intro args; unfold SS_kit_Words; split; exact .inr fun R k => (by kernel_rfl); exact .inl fun R k => rfl
theorem ok_kit_Words [Fuel] : Ok 61 (SS_kit_Words (@kit_Words _)) := okF_of std (.cons ok_strings_Split .nil) ⟨rfl, rfl, by kernel_rfl, rfl, rfl, rfl⟩ (sm_kit_Words I_kit_Words) (cutsL (fun _ => rfl) (.cons lf_kit_Words_L3 .nil) (by kernel_rfl)) Tryz.func61 (by kernel_rfl) (by kernel_rfl)
abbrev T_stringslite_HasPrefix : Type 1 := List UInt8 → List UInt8 → {R : Type} → (Bool → Option R) → Option R
def stringslite_HasPrefix_ (g : Nat) (a1 a2 : List UInt8) {R : Type} (k0 : Bool → Option R) : Option R :=
 (bif (decide ((a1.length : Int) ≥ (a2.length : Int))) then (bif (decide (0 ≤ (a2.length : Int)) && decide ((a2.length : Int) ≤ (a1.length : Int))) then k0 ((a1.take ((a2.length : Int) : Int).toNat) == a2) else none) else k0 false)
noncomputable def stringslite_HasPrefix [Fuel] : T_stringslite_HasPrefix := @stringslite_HasPrefix_ NN
def SS_stringslite_HasPrefix (g : T_stringslite_HasPrefix) : Spec A := fun args => match args with | [.d (.str a1), .d (.str a2)] => fun k => g a1 a2 (fun z0 => k (.d (.bool z0)) [.undef, .undef]) | _ => fun _ => none
noncomputable def code_240 : Code := (Tryz.f240.body).getD .skip
noncomputable def E_stringslite_HasPrefix (g : Nat) : Env A := mkE [] [] [] [] [] [] [] [] [] []
theorem sm_stringslite_HasPrefix (g : Nat) : Same (SS_stringslite_HasPrefix (@stringslite_HasPrefix_ g)) (abody (E_stringslite_HasPrefix g) Tryz.f240 code_240 0 [] [.asis] g) := by intro args; unfold SS_stringslite_HasPrefix; split; exact .inr fun R k => (by kernel_rfl); exact .inl fun R k => rfl
theorem ok_stringslite_HasPrefix [Fuel] : Ok 240 (SS_stringslite_HasPrefix (@stringslite_HasPrefix _)) := okF_of std .nil ⟨rfl, rfl, by kernel_rfl, rfl, rfl, rfl⟩ (sm_stringslite_HasPrefix NN) (cuts0 (fun _ => rfl) (by kernel_rfl)) Tryz.func240 (by kernel_rfl) (by kernel_rfl)
abbrev T_stringslite_CutPrefix : Type 1 := List UInt8 → List UInt8 → {R : Type} → (List UInt8 → Bool → Option R) → Option R
structure C_stringslite_CutPrefix where
 N : Nat
 stringslite_HasPrefix : T_stringslite_HasPrefix
def stringslite_CutPrefix_ (g : C_stringslite_CutPrefix) (a1 a2 : List UInt8) {R : Type} (k0 : List UInt8 → Bool → Option R) : Option R :=
 (g.stringslite_HasPrefix a1 a2 (fun r3 => (bif (!r3) then k0 a1 false else (bif (decide (0 ≤ (a2.length : Int)) && decide ((a2.length : Int) ≤ (a1.length : Int))) then k0 (a1.drop ((a2.length : Int) : Int).toNat) true else none))))
noncomputable def I_stringslite_CutPrefix [Fuel] : C_stringslite_CutPrefix := ⟨NN, @stringslite_HasPrefix _⟩
noncomputable def stringslite_CutPrefix [Fuel] : T_stringslite_CutPrefix := @stringslite_CutPrefix_ I_stringslite_CutPrefix
def SS_stringslite_CutPrefix (g : T_stringslite_CutPrefix) : Spec A := fun args => match args with | [.d (.str a1), .d (.str a2)] => fun k => g a1 a2 (fun z0 z1 => k (.tup [.d (.str z0), .d (.bool z1)]) [.undef, .undef]) | _ => fun _ => none
noncomputable def code_251 : Code := (Tryz.f251.body).getD .skip
noncomputable def E_stringslite_CutPrefix (g : C_stringslite_CutPrefix) : Env A := mkE [(240, SS_stringslite_HasPrefix g.stringslite_HasPrefix)] [] [] [] [] [] [] [] [] []
theorem sm_stringslite_CutPrefix (g : C_stringslite_CutPrefix) : Same (SS_stringslite_CutPrefix (@stringslite_CutPrefix_ g)) (abody (E_stringslite_CutPrefix g) Tryz.f251 code_251 0 [] [.asis, .asis] g.N) := by intro args; unfold SS_stringslite_CutPrefix; split; exact .inr fun R k => (by kernel_rfl); exact .inl fun R k => rfl
theorem ok_stringslite_CutPrefix [Fuel] : Ok 251 (SS_stringslite_CutPrefix (@stringslite_CutPrefix _)) := okF_of std (.cons ok_stringslite_HasPrefix .nil) ⟨rfl, rfl, by kernel_rfl, rfl, rfl, rfl⟩ (sm_stringslite_CutPrefix I_stringslite_CutPrefix) (cuts0 (fun _ => rfl) (by kernel_rfl)) Tryz.func251 (by kernel_rfl) (by kernel_rfl)
abbrev T_strings_CutPrefix : Type 1 := List UInt8 → List UInt8 → {R : Type} → (List UInt8 → Bool → Option R) → Option R
structure C_strings_CutPrefix where
 N : Nat
 stringslite_CutPrefix : T_stringslite_CutPrefix
def strings_CutPrefix_ (g : C_strings_CutPrefix) (a1 a2 : List UInt8) {R : Type} (k0 : List UInt8 → Bool → Option R) : Option R :=
 (g.stringslite_CutPrefix a1 a2 (fun r3 r4 => k0 r3 r4))
noncomputable def I_strings_CutPrefix [Fuel] : C_strings_CutPrefix := ⟨NN, @stringslite_CutPrefix _⟩
noncomputable def strings_CutPrefix [Fuel] : T_strings_CutPrefix := @strings_CutPrefix_ I_strings_CutPrefix
def SS_strings_CutPrefix (g : T_strings_CutPrefix) : Spec A := fun args => match args with | [.d (.str a1), .d (.str a2)] => fun k => g a1 a2 (fun z0 z1 => k (.tup [.d (.str z0), .d (.bool z1)]) [.undef, .undef]) | _ => fun _ => none
noncomputable def code_195 : Code := (Tryz.f195.body).getD .skip
noncomputable def E_strings_CutPrefix (g : C_strings_CutPrefix) : Env A := mkE [(251, SS_stringslite_CutPrefix g.stringslite_CutPrefix)] [] [] [] [] [] [] [] [] []
theorem sm_strings_CutPrefix (g : C_strings_CutPrefix) : Same (SS_strings_CutPrefix (@strings_CutPrefix_ g)) (abody (E_strings_CutPrefix g) Tryz.f195 code_195 0 [] [.asis, .asis] g.N) := by intro args; unfold SS_strings_CutPrefix; split; exact .inr fun R k => (by kernel_rfl); exact .inl fun R k => rfl
theorem ok_strings_CutPrefix [Fuel] : Ok 195 (SS_strings_CutPrefix (@strings_CutPrefix _)) := okF_of std (.cons ok_stringslite_CutPrefix .nil) ⟨rfl, rfl, by kernel_rfl, rfl, rfl, rfl⟩ (sm_strings_CutPrefix I_strings_CutPrefix) (cuts0 (fun _ => rfl) (by kernel_rfl)) Tryz.func195 (by kernel_rfl) (by kernel_rfl)
abbrev T_strconv_Atoi : Type 1 := List UInt8 → {R : Type} → (Int → Option R) → Option R
def strconv_Atoi [Fuel] : T_strconv_Atoi := @X_atoi
def SS_strconv_Atoi (g : T_strconv_Atoi) : Spec A := SSX_atoi g
theorem ok_strconv_Atoi [Fuel] : Ok 144 (SS_strconv_Atoi (@strconv_Atoi _)) := ⟨ssx_atoi_sound (atoi_sound rfl (fun s n w h0 h1 => (Any.strconv_Atoi Tryz.lays172 s n h0 h1 w).mono (fun e w h => ⟨h.1, _, h.2⟩))), ssx_atoi_nat, enters_of (fn := Tryz.f144) Tryz.func144 (by kernel_rfl) (by kernel_rfl)⟩
abbrev T_kit_Number : Type 1 := List UInt8 → Int → {R : Type} → (Int → Bool → Option R) → Option R
structure C_kit_Number where
 N : Nat
 strconv_Atoi : T_strconv_Atoi
 strings_Trim : T_strings_Trim
 strings_CutPrefix : T_strings_CutPrefix
def kit_Number_ (g : C_kit_Number) (a1 : List UInt8) (a2 : Int) {R : Type} (k0 : Int → Bool → Option R) : Option R :=
 (g.strings_CutPrefix a1 [45] (fun r3 r4 => (bif (r3 == []) then k0 0 false else (bif (decide ((r3.length : Int) > a2)) then k0 0 false else (g.strings_Trim r3 [48, 49, 50, 51, 52, 53, 54, 55, 56, 57] (fun r5 => (bif (!(r5 == [])) then k0 0 false else (at_ r3 0 fun x6 => (bif ((x6.toNat : Int) == 48) then (bif (decide ((r3.length : Int) > 1)) then k0 0 false else (bif r4 then k0 0 false else (g.strconv_Atoi r3 (fun r7 => (bif r4 then k0 (w64 (0 - r7)) true else k0 r7 true))))) else (g.strconv_Atoi r3 (fun r8 => (bif r4 then k0 (w64 (0 - r8)) true else k0 r8 true))))))))))))
noncomputable def I_kit_Number [Fuel] : C_kit_Number := ⟨NN, @strconv_Atoi _, @strings_Trim _, @strings_CutPrefix _⟩
noncomputable def kit_Number [Fuel] : T_kit_Number := @kit_Number_ I_kit_Number
def SS_kit_Number (g : T_kit_Number) : Spec A := fun args => match args with | [.d (.str a1), .d (.int .i64 a2)] => fun k => g a1 a2 (fun z0 z1 => k (.tup [.d (.int .i64 z0), .d (.bool z1)]) [.undef, .undef]) | _ => fun _ => none
noncomputable def code_151 : Code := (Tryz.f151.body).getD .skip
noncomputable def E_kit_Number (g : C_kit_Number) : Env A := mkE [(144, SS_strconv_Atoi g.strconv_Atoi), (179, SS_strings_Trim g.strings_Trim), (195, SS_strings_CutPrefix g.strings_CutPrefix)] [] [] [] [] [] [] [] [] []
theorem sm_kit_Number (g : C_kit_Number) : Same (SS_kit_Number (@kit_Number_ g)) (abody (E_kit_Number g) Tryz.f151 code_151 0 [] [.asis, .asis] g.N) := by intro args; unfold SS_kit_Number; split; exact .inr fun R k => (by kernel_rfl); exact .inl fun R k => rfl
theorem ok_kit_Number [Fuel] : Ok 151 (SS_kit_Number (@kit_Number _)) := okF_of std (.cons ok_strconv_Atoi (.cons ok_strings_Trim (.cons ok_strings_CutPrefix .nil))) ⟨rfl, rfl, by kernel_rfl, rfl, rfl, rfl⟩ (sm_kit_Number I_kit_Number) (cuts0 (fun _ => rfl) (by kernel_rfl)) Tryz.func151 (by kernel_rfl) (by kernel_rfl)
abbrev T_kit_Numbers : Type 1 := List (List UInt8) → {R : Type} → (List Int → Bool → Option R) → Option R
structure C_kit_Numbers where
 N : Nat
 kit_Number : T_kit_Number
def kit_Numbers_L3 (g : C_kit_Numbers) : Nat → List (List UInt8) → Int → Int → List Int → {R : Type} → (Bool → List Int → Option R) → (List Int → Option R) → Option R
 | 0, _, _, _, _, _, _, _ => none
 | n + 1, v2, v3, v4, v5, _, e0, e1 => (bif (decide (v4 < v3)) then (get_ v2 v4 fun x9 => (g.kit_Number x9 15 (fun r10 r11 => (bif (!r11) then e0 false v5 else (bif (decide ((v5.length + [r10].length) * 8 ≤ roomBytes')) then kit_Numbers_L3 g n v2 v3 (w64 (v4 + 1)) (v5 ++ [r10]) e0 e1 else none))))) else e1 v5)
def kit_Numbers_ (g : C_kit_Numbers) (a1 : List (List UInt8)) {R : Type} (k0 : List Int → Bool → Option R) : Option R :=
 (kit_Numbers_L3 g g.N a1 (a1.length : Int) 0 [] (fun e12 e13 => k0 [] e12) (fun e14 => k0 e14 true))
noncomputable def I_kit_Numbers [Fuel] : C_kit_Numbers := ⟨NN, @kit_Number _⟩
noncomputable def kit_Numbers [Fuel] : T_kit_Numbers := @kit_Numbers_ I_kit_Numbers
def SS_kit_Numbers (g : T_kit_Numbers) : Spec A := fun args => match args with | [.d (.sl 9 a1)] => fun k => g a1 (fun z0 z1 => k (.tup [.arr 3 z0, .d (.bool z1)]) [.undef]) | _ => fun _ => none
def sh_kit_Numbers_L3 : SSt := mkSh 28 3 [(4, .own 3 0), (9, .sl 9), (10, .int .i64), (11, .int .i64)] [(0, .row 3)]
def LP_kit_Numbers_L3 (g : C_kit_Numbers) (n : Nat) : LPT A := fun ps => match ps with | [.d (.sl 9 p1), .d (.int .i64 p2), .d (.int .i64 p3), .d (.sl 3 p4)] => fun K => kit_Numbers_L3 g n p1 p2 p3 p4 (fun z0 z1 => K .ret (mkSt 28 3 [(2, .d .nsl), (3, .d (.bool z0)), (4, .own 3 0)] [(0, some (.row 3 z1))])) (fun z0 => K (.exit 0) (mkSt 28 3 [(4, .own 3 0)] [(0, some (.row 3 z0))])) | _ => fun _ => none
noncomputable def code_100 : Code := (Tryz.f100.body).getD .skip
noncomputable def E_kit_Numbers (g : C_kit_Numbers) : Env A := mkE [(151, SS_kit_Number g.kit_Number)] [(24, [1]), (25, [2])] [(3, ⟨[4, 9, 10, 11], [(4, 3, 0)], [], [], [], [], []⟩)] [(3, ⟨[2, 3, 4], [], [0], [], [], [], []⟩)] [(3, pieceOf sh_kit_Numbers_L3 (LP_kit_Numbers_L3 g g.N))] [] [] [] [] []
theorem ct_kit_Numbers [Fuel] : NatTab (E_kit_Numbers I_kit_Numbers).C := ct_of (P := Tryz.prog) (T := T) (.cons ok_kit_Number .nil) (by kernel_rfl)
noncomputable def cb_kit_Numbers_L3 : Code := sub [1, 1, 0, 1, 0, 0] code_100
theorem s_kit_Numbers_L3 (g : C_kit_Numbers) (n : Nat) : StepOk (E_kit_Numbers g) g.N cb_kit_Numbers_L3 sh_kit_Numbers_L3 (LP_kit_Numbers_L3 g) n := by intro ps; unfold LP_kit_Numbers_L3; split; exact .inr fun R K => (by kernel_rfl); exact .inl fun R K => rfl
theorem lf_kit_Numbers_L3 [Fuel] : LoopFine (E_kit_Numbers I_kit_Numbers) NN cb_kit_Numbers_L3 := fine_loop sh_kit_Numbers_L3 (LP_kit_Numbers_L3 I_kit_Numbers) (by kernel_rfl) ct_kit_Numbers (cuts0 (fun _ => rfl) (by kernel_rfl)) (fun ps R K => by unfold LP_kit_Numbers_L3; split <;> (try unfold kit_Numbers_L3) <;> rfl) (s_kit_Numbers_L3 I_kit_Numbers)
theorem sm_kit_Numbers (g : C_kit_Numbers) : Same (SS_kit_Numbers (@kit_Numbers_ g)) (abody (E_kit_Numbers g) Tryz.f100 code_100 3 [] [.arr 3, .asis] g.N) := by intro args; unfold SS_kit_Numbers; split; exact .inr fun R k => (by kernel_rfl); exact .inl fun R k => rfl
theorem ok_kit_Numbers [Fuel] : Ok 100 (SS_kit_Numbers (@kit_Numbers _)) := okF_of std (.cons ok_kit_Number .nil) ⟨rfl, rfl, by kernel_rfl, rfl, rfl, rfl⟩ (sm_kit_Numbers I_kit_Numbers) (cutsL (fun _ => rfl) (.cons lf_kit_Numbers_L3 .nil) (by kernel_rfl)) Tryz.func100 (by kernel_rfl) (by kernel_rfl)
end Go.Am
