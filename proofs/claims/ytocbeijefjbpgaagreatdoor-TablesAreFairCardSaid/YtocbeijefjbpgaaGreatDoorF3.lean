/- The functions of the program as Lean functions, each shown to be what the code computes, part 3. No condition: lemmas for the claim. -/
import Derived.Test.YtocbeijefjbpgaaGreatDoorF0
import Derived.Test.YtocbeijefjbpgaaGreatDoorFSh
import Derived.Test.YtocbeijefjbpgaaGreatDoorF1
import Derived.Test.YtocbeijefjbpgaaGreatDoorF2
set_option linter.unusedVariables false
set_option maxRecDepth 100000
namespace Go.Am
open Go Go.Proofs
abbrev T_cmp_isNaN__string : Type 1 := List UInt8 → {R : Type} → (Bool → Option R) → Option R
def cmp_isNaN__string_ (g : Nat) (a1 : List UInt8) {R : Type} (k0 : Bool → Option R) : Option R :=
 k0 (!(a1 == a1))
noncomputable def cmp_isNaN__string [Fuel] : T_cmp_isNaN__string := @cmp_isNaN__string_ NN
def SS_cmp_isNaN__string (g : T_cmp_isNaN__string) : Spec A := fun args => match args with | [.d (.str a1)] => fun k => g a1 (fun z0 => k (.d (.bool z0)) [.undef]) | _ => fun _ => none
noncomputable def code_76 : Code := (Tryz.f76.body).getD .skip
noncomputable def E_cmp_isNaN__string (g : Nat) : Env A := mkE [] [] [] [] [] [] [] [] [] []
theorem sm_cmp_isNaN__string (g : Nat) : Same (SS_cmp_isNaN__string (@cmp_isNaN__string_ g)) (abody (E_cmp_isNaN__string g) Tryz.f76 code_76 0 [] [.asis] g) := by intro args; unfold SS_cmp_isNaN__string; split; exact .inr fun R k => (by kernel_rfl); exact .inl fun R k => rfl
theorem ok_cmp_isNaN__string [Fuel] : Ok 76 (SS_cmp_isNaN__string (@cmp_isNaN__string _)) := okF_of std .nil ⟨rfl, rfl, by kernel_rfl, rfl, rfl, rfl⟩ (sm_cmp_isNaN__string NN) (cuts0 (fun _ => rfl) (by kernel_rfl)) Tryz.func76 (by kernel_rfl) (by kernel_rfl)
abbrev T_cmp_Compare__string : Type 1 := List UInt8 → List UInt8 → {R : Type} → (Int → Option R) → Option R
structure C_cmp_Compare__string where
 N : Nat
 cmp_isNaN__string : T_cmp_isNaN__string
def cmp_Compare__string_ (g : C_cmp_Compare__string) (a1 a2 : List UInt8) {R : Type} (k0 : Int → Option R) : Option R :=
 (g.cmp_isNaN__string a1 (fun r3 => (g.cmp_isNaN__string a2 (fun r4 => (bif r3 then (bif r4 then k0 0 else k0 (-1)) else (bif r4 then k0 1 else (bif (Op.bytesLess a1 a2) then k0 (-1) else (bif (!(Op.bytesLess a1 a2 || a1 == a2)) then k0 1 else k0 0))))))))
noncomputable def I_cmp_Compare__string [Fuel] : C_cmp_Compare__string := ⟨NN, @cmp_isNaN__string _⟩
noncomputable def cmp_Compare__string [Fuel] : T_cmp_Compare__string := @cmp_Compare__string_ I_cmp_Compare__string
def SS_cmp_Compare__string (g : T_cmp_Compare__string) : Spec A := fun args => match args with | [.d (.str a1), .d (.str a2)] => fun k => g a1 a2 (fun z0 => k (.d (.int .i64 z0)) [.undef, .undef]) | _ => fun _ => none
noncomputable def code_41 : Code := (Tryz.f41.body).getD .skip
noncomputable def E_cmp_Compare__string (g : C_cmp_Compare__string) : Env A := mkE [(76, SS_cmp_isNaN__string g.cmp_isNaN__string)] [] [] [] [] [] [] [] [] []
theorem sm_cmp_Compare__string (g : C_cmp_Compare__string) : Same (SS_cmp_Compare__string (@cmp_Compare__string_ g)) (abody (E_cmp_Compare__string g) Tryz.f41 code_41 0 [] [.asis] g.N) := by intro args; unfold SS_cmp_Compare__string; split; exact .inr fun R k => (by kernel_rfl); exact .inl fun R k => rfl
theorem ok_cmp_Compare__string [Fuel] : Ok 41 (SS_cmp_Compare__string (@cmp_Compare__string _)) := okF_of std (.cons ok_cmp_isNaN__string .nil) ⟨rfl, rfl, by kernel_rfl, rfl, rfl, rfl⟩ (sm_cmp_Compare__string I_cmp_Compare__string) (cuts0 (fun _ => rfl) (by kernel_rfl)) Tryz.func41 (by kernel_rfl) (by kernel_rfl)
abbrev T_slices_Compare__string : Type 1 := List (List UInt8) → List (List UInt8) → {R : Type} → (Int → Option R) → Option R
structure C_slices_Compare__string where
 N : Nat
 cmp_Compare__string : T_cmp_Compare__string
def slices_Compare__string_L2 (g : C_slices_Compare__string) : Nat → List (List UInt8) → List (List UInt8) → List (List UInt8) → Int → Int → {R : Type} → (List (List UInt8) → List (List UInt8) → Int → Option R) → (List (List UInt8) → List (List UInt8) → Option R) → Option R
 | 0, _, _, _, _, _, _, _, _ => none
 | n + 1, v3, v4, v5, v6, v7, _, e0, e1 => (bif (decide (v7 < v6)) then (get_ v5 v7 fun x11 => (bif (decide (v7 ≥ (v4.length : Int))) then e0 v3 v4 1 else (get_ v4 v7 fun x12 => (g.cmp_Compare__string x11 x12 (fun r13 => (bif (r13 != 0) then e0 v3 v4 r13 else slices_Compare__string_L2 g n v3 v4 v5 v6 (w64 (v7 + 1)) e0 e1)))))) else e1 v3 v4)
def slices_Compare__string_ (g : C_slices_Compare__string) (a1 a2 : List (List UInt8)) {R : Type} (k0 : Int → Option R) : Option R :=
 (slices_Compare__string_L2 g g.N a1 a2 a1 (a1.length : Int) 0 (fun e14 e15 e16 => k0 e16) (fun e17 e18 => (bif (decide ((e17.length : Int) < (e18.length : Int))) then k0 (-1) else k0 0)))
noncomputable def I_slices_Compare__string [Fuel] : C_slices_Compare__string := ⟨NN, @cmp_Compare__string _⟩
noncomputable def slices_Compare__string [Fuel] : T_slices_Compare__string := @slices_Compare__string_ I_slices_Compare__string
def SS_slices_Compare__string (g : T_slices_Compare__string) : Spec A := fun args => match args with | [.d (.sl 9 a1), .d (.sl 9 a2)] => fun k => g a1 a2 (fun z0 => k (.d (.int .i64 z0)) [.undef, .undef]) | _ => fun _ => none
def sh_slices_Compare__string_L2 : SSt := mkSh 36 0 [(0, .sl 9), (1, .sl 9), (9, .sl 9), (10, .int .i64), (11, .int .i64)] []
def LP_slices_Compare__string_L2 (g : C_slices_Compare__string) (n : Nat) : LPT A := fun ps => match ps with | [.d (.sl 9 p1), .d (.sl 9 p2), .d (.sl 9 p3), .d (.int .i64 p4), .d (.int .i64 p5)] => fun K => slices_Compare__string_L2 g n p1 p2 p3 p4 p5 (fun z0 z1 z2 => K .ret (mkSt 36 0 [(0, .d (.sl 9 z0)), (1, .d (.sl 9 z1)), (4, .d (.int .i64 z2))] [])) (fun z0 z1 => K (.exit 0) (mkSt 36 0 [(0, .d (.sl 9 z0)), (1, .d (.sl 9 z1))] [])) | _ => fun _ => none
noncomputable def code_23 : Code := (Tryz.f23.body).getD .skip
noncomputable def E_slices_Compare__string (g : C_slices_Compare__string) : Env A := mkE [(41, SS_cmp_Compare__string g.cmp_Compare__string)] [] [(2, ⟨[0, 1, 9, 10, 11], [], [], [], [], []⟩)] [(2, ⟨[0, 1, 4], [], [], [], [], []⟩)] [(2, pieceOf sh_slices_Compare__string_L2 (LP_slices_Compare__string_L2 g g.N))] [] [] [] [] []
theorem ct_slices_Compare__string [Fuel] : NatTab (E_slices_Compare__string I_slices_Compare__string).C := ct_of (P := Tryz.prog) (T := T) (.cons ok_cmp_Compare__string .nil) (by kernel_rfl)
noncomputable def cb_slices_Compare__string_L2 : Code := sub [1, 0, 1, 0, 0] code_23
theorem s_slices_Compare__string_L2 (g : C_slices_Compare__string) (n : Nat) : StepOk (E_slices_Compare__string g) g.N cb_slices_Compare__string_L2 sh_slices_Compare__string_L2 (LP_slices_Compare__string_L2 g) n := by intro ps; unfold LP_slices_Compare__string_L2; split; exact .inr fun R K => (by kernel_rfl); exact .inl fun R K => rfl
theorem lf_slices_Compare__string_L2 [Fuel] : LoopFine (E_slices_Compare__string I_slices_Compare__string) NN cb_slices_Compare__string_L2 := fine_loop sh_slices_Compare__string_L2 (LP_slices_Compare__string_L2 I_slices_Compare__string) (by kernel_rfl) ct_slices_Compare__string (cuts0 (fun _ => rfl) (by kernel_rfl)) (fun ps R K => by unfold LP_slices_Compare__string_L2; split <;> (try unfold slices_Compare__string_L2) <;> rfl) (s_slices_Compare__string_L2 I_slices_Compare__string)
theorem sm_slices_Compare__string (g : C_slices_Compare__string) : Same (SS_slices_Compare__string (@slices_Compare__string_ g)) (abody (E_slices_Compare__string g) Tryz.f23 code_23 0 [] [.asis] g.N) := by intro args; unfold SS_slices_Compare__string; split; exact .inr fun R k => (by kernel_rfl); exact .inl fun R k => rfl
theorem ok_slices_Compare__string [Fuel] : Ok 23 (SS_slices_Compare__string (@slices_Compare__string _)) := okF_of std (.cons ok_cmp_Compare__string .nil) ⟨rfl, rfl, by kernel_rfl, rfl, rfl, rfl⟩ (sm_slices_Compare__string I_slices_Compare__string) (cutsL (fun _ => rfl) (.cons lf_slices_Compare__string_L2 .nil) (by kernel_rfl)) Tryz.func23 (by kernel_rfl) (by kernel_rfl)
abbrev T_Q_EntrantsFault : Type 1 := List G_Entrant → {R : Type} → (Int → Option R) → Option R
structure C_Q_EntrantsFault where
 N : Nat
 Q_Call : T_Q_Call
 Q_Key : T_Q_Key
 Q_in : T_Q_in
 Q_locator : T_Q_locator
 slices_Compare__string : T_slices_Compare__string
def Q_EntrantsFault_L4 (g : C_Q_EntrantsFault) : Nat → List G_Entrant → List G_Entrant → Int → Int → {R : Type} → (Int → Option R) → Option R → Option R
 | 0, _, _, _, _, _, _, _ => none
 | n + 1, v2, v3, v4, v5, _, e0, e1 => (bif (decide (v5 < v4)) then (get_ v3 v5 fun x17 => (g.Q_Call x17.f_Call (fun r18 => (bif (!r18) then e0 3 else (g.Q_Key x17.f_Category (fun r19 => (bif (!r19) then e0 5 else (g.Q_in x17.f_Points 0 1000000000000 (fun r20 => (bif (!r20) then e0 1 else (bif (!(x17.f_Locator == [])) then (g.Q_locator x17.f_Locator (fun r21 => (bif (!r21) then e0 3 else (bif (decide (v5 > 0)) then (get_ v2 (w64 (v5 - 1)) fun x22 => (get_ v2 (w64 (v5 - 1)) fun x23 => (g.slices_Compare__string [x22.f_Category, x23.f_Call] [x17.f_Category, x17.f_Call] (fun r24 => (bif (decide (r24 ≥ 0)) then e0 7 else Q_EntrantsFault_L4 g n v2 v3 v4 (w64 (v5 + 1)) e0 e1))))) else Q_EntrantsFault_L4 g n v2 v3 v4 (w64 (v5 + 1)) e0 e1)))) else (bif (decide (v5 > 0)) then (get_ v2 (w64 (v5 - 1)) fun x25 => (get_ v2 (w64 (v5 - 1)) fun x26 => (g.slices_Compare__string [x25.f_Category, x26.f_Call] [x17.f_Category, x17.f_Call] (fun r27 => (bif (decide (r27 ≥ 0)) then e0 7 else Q_EntrantsFault_L4 g n v2 v3 v4 (w64 (v5 + 1)) e0 e1))))) else Q_EntrantsFault_L4 g n v2 v3 v4 (w64 (v5 + 1)) e0 e1)))))))))))) else e1)
def Q_EntrantsFault_ (g : C_Q_EntrantsFault) (a1 : List G_Entrant) {R : Type} (k0 : Int → Option R) : Option R :=
 (bif (decide ((a1.length : Int) > 500)) then k0 2 else (Q_EntrantsFault_L4 g g.N a1 a1 (a1.length : Int) 0 (fun e28 => k0 e28) (k0 0)))
noncomputable def I_Q_EntrantsFault [Fuel] : C_Q_EntrantsFault := ⟨NN, @Q_Call _, @Q_Key _, @Q_in _, @Q_locator _, @slices_Compare__string _⟩
noncomputable def Q_EntrantsFault [Fuel] : T_Q_EntrantsFault := @Q_EntrantsFault_ I_Q_EntrantsFault
def SS_Q_EntrantsFault (g : T_Q_EntrantsFault) : Spec A := fun args => match args with | [.d (.sl 58 a1)] => fun k => g a1 (fun z0 => k (.d (.int .i64 z0)) [.undef]) | _ => fun _ => none
def sh_Q_EntrantsFault_L4 : SSt := mkSh 66 3 [(0, .sl 58), (8, .sl 58), (9, .int .i64), (10, .int .i64)] []
def LP_Q_EntrantsFault_L4 (g : C_Q_EntrantsFault) (n : Nat) : LPT A := fun ps => match ps with | [.d (.sl 58 p1), .d (.sl 58 p2), .d (.int .i64 p3), .d (.int .i64 p4)] => fun K => Q_EntrantsFault_L4 g n p1 p2 p3 p4 (fun z0 => K .ret (mkSt 66 3 [(2, .d (.int .i64 z0))] [])) (K (.exit 0) (mkSt 66 3 [] [])) | _ => fun _ => none
noncomputable def code_6 : Code := (Tryz.f6.body).getD .skip
noncomputable def E_Q_EntrantsFault (g : C_Q_EntrantsFault) : Env A := mkE [(19, SS_Q_Call g.Q_Call), (20, SS_Q_Key g.Q_Key), (21, SS_Q_in g.Q_in), (22, SS_Q_locator g.Q_locator), (23, SS_slices_Compare__string g.slices_Compare__string)] [(4, [0]), (56, [1]), (61, [2])] [(4, ⟨[0, 8, 9, 10], [], [], [], [], []⟩)] [(4, ⟨[2], [], [], [], [], []⟩)] [(4, pieceOf sh_Q_EntrantsFault_L4 (LP_Q_EntrantsFault_L4 g g.N))] [] [] [] [] []
theorem ct_Q_EntrantsFault [Fuel] : NatTab (E_Q_EntrantsFault I_Q_EntrantsFault).C := ct_of (P := Tryz.prog) (T := T) (.cons ok_Q_Call (.cons ok_Q_Key (.cons ok_Q_in (.cons ok_Q_locator (.cons ok_slices_Compare__string .nil))))) (by kernel_rfl)
noncomputable def cb_Q_EntrantsFault_L4 : Code := sub [1, 1, 0, 1, 0, 0] code_6
theorem s_Q_EntrantsFault_L4 (g : C_Q_EntrantsFault) (n : Nat) : StepOk (E_Q_EntrantsFault g) g.N cb_Q_EntrantsFault_L4 sh_Q_EntrantsFault_L4 (LP_Q_EntrantsFault_L4 g) n := by intro ps; unfold LP_Q_EntrantsFault_L4; split; exact .inr fun R K => (by kernel_rfl); exact .inl fun R K => rfl
theorem lf_Q_EntrantsFault_L4 [Fuel] : LoopFine (E_Q_EntrantsFault I_Q_EntrantsFault) NN cb_Q_EntrantsFault_L4 := fine_loop sh_Q_EntrantsFault_L4 (LP_Q_EntrantsFault_L4 I_Q_EntrantsFault) (by kernel_rfl) ct_Q_EntrantsFault (cuts0 (fun _ => rfl) (by kernel_rfl)) (fun ps R K => by unfold LP_Q_EntrantsFault_L4; split <;> (try unfold Q_EntrantsFault_L4) <;> rfl) (s_Q_EntrantsFault_L4 I_Q_EntrantsFault)
theorem sm_Q_EntrantsFault (g : C_Q_EntrantsFault) : Same (SS_Q_EntrantsFault (@Q_EntrantsFault_ g)) (abody (E_Q_EntrantsFault g) Tryz.f6 code_6 3 [] [.asis] g.N) := by intro args; unfold SS_Q_EntrantsFault; split; exact .inr fun R k => (by kernel_rfl); exact .inl fun R k => rfl
theorem ok_Q_EntrantsFault [Fuel] : Ok 6 (SS_Q_EntrantsFault (@Q_EntrantsFault _)) := okF_of std (.cons ok_Q_Call (.cons ok_Q_Key (.cons ok_Q_in (.cons ok_Q_locator (.cons ok_slices_Compare__string .nil))))) ⟨rfl, rfl, by kernel_rfl, rfl, rfl, rfl⟩ (sm_Q_EntrantsFault I_Q_EntrantsFault) (cutsL (fun _ => rfl) (.cons lf_Q_EntrantsFault_L4 .nil) (by kernel_rfl)) Tryz.func6 (by kernel_rfl) (by kernel_rfl)
abbrev T_kit_Outside : Type 1 := Int → Int → Int → {R : Type} → (Bool → Option R) → Option R
def kit_Outside_ (g : Nat) (a1 a2 a3 : Int) {R : Type} (k0 : Bool → Option R) : Option R :=
 (bif (decide (a1 < a2)) then k0 true else k0 (decide (a1 > a3)))
noncomputable def kit_Outside [Fuel] : T_kit_Outside := @kit_Outside_ NN
def SS_kit_Outside (g : T_kit_Outside) : Spec A := fun args => match args with | [.d (.int .i64 a1), .d (.int .i64 a2), .d (.int .i64 a3)] => fun k => g a1 a2 a3 (fun z0 => k (.d (.bool z0)) [.undef, .undef, .undef]) | _ => fun _ => none
noncomputable def code_36 : Code := (Tryz.f36.body).getD .skip
noncomputable def E_kit_Outside (g : Nat) : Env A := mkE [] [] [] [] [] [] [] [] [] []
theorem sm_kit_Outside (g : Nat) : Same (SS_kit_Outside (@kit_Outside_ g)) (abody (E_kit_Outside g) Tryz.f36 code_36 0 [] [.asis] g) := by intro args; unfold SS_kit_Outside; split; exact .inr fun R k => (by kernel_rfl); exact .inl fun R k => rfl
theorem ok_kit_Outside [Fuel] : Ok 36 (SS_kit_Outside (@kit_Outside _)) := okF_of std .nil ⟨rfl, rfl, by kernel_rfl, rfl, rfl, rfl⟩ (sm_kit_Outside NN) (cuts0 (fun _ => rfl) (by kernel_rfl)) Tryz.func36 (by kernel_rfl) (by kernel_rfl)
abbrev T_kit_IsMoment : Type 1 := Int → {R : Type} → (Bool → Option R) → Option R
structure C_kit_IsMoment where
 N : Nat
 kit_Outside : T_kit_Outside
def kit_IsMoment_ (g : C_kit_IsMoment) (a1 : Int) {R : Type} (k0 : Bool → Option R) : Option R :=
 (g.kit_Outside a1 0 345686399999 (fun r2 => k0 (!r2)))
noncomputable def I_kit_IsMoment [Fuel] : C_kit_IsMoment := ⟨NN, @kit_Outside _⟩
noncomputable def kit_IsMoment [Fuel] : T_kit_IsMoment := @kit_IsMoment_ I_kit_IsMoment
def SS_kit_IsMoment (g : T_kit_IsMoment) : Spec A := fun args => match args with | [.d (.int .i64 a1)] => fun k => g a1 (fun z0 => k (.d (.bool z0)) [.undef]) | _ => fun _ => none
noncomputable def code_45 : Code := (Tryz.f45.body).getD .skip
noncomputable def E_kit_IsMoment (g : C_kit_IsMoment) : Env A := mkE [(36, SS_kit_Outside g.kit_Outside)] [] [] [] [] [] [] [] [] []
theorem sm_kit_IsMoment (g : C_kit_IsMoment) : Same (SS_kit_IsMoment (@kit_IsMoment_ g)) (abody (E_kit_IsMoment g) Tryz.f45 code_45 0 [] [.asis] g.N) := by intro args; unfold SS_kit_IsMoment; split; exact .inr fun R k => (by kernel_rfl); exact .inl fun R k => rfl
theorem ok_kit_IsMoment [Fuel] : Ok 45 (SS_kit_IsMoment (@kit_IsMoment _)) := okF_of std (.cons ok_kit_Outside .nil) ⟨rfl, rfl, by kernel_rfl, rfl, rfl, rfl⟩ (sm_kit_IsMoment I_kit_IsMoment) (cuts0 (fun _ => rfl) (by kernel_rfl)) Tryz.func45 (by kernel_rfl) (by kernel_rfl)
abbrev T_kit_IsMode : Type 1 := Int → {R : Type} → (Bool → Option R) → Option R
structure C_kit_IsMode where
 N : Nat
 kit_Outside : T_kit_Outside
def kit_IsMode_ (g : C_kit_IsMode) (a1 : Int) {R : Type} (k0 : Bool → Option R) : Option R :=
 (g.kit_Outside a1 1 3 (fun r2 => k0 (!r2)))
noncomputable def I_kit_IsMode [Fuel] : C_kit_IsMode := ⟨NN, @kit_Outside _⟩
noncomputable def kit_IsMode [Fuel] : T_kit_IsMode := @kit_IsMode_ I_kit_IsMode
def SS_kit_IsMode (g : T_kit_IsMode) : Spec A := fun args => match args with | [.d (.int .i64 a1)] => fun k => g a1 (fun z0 => k (.d (.bool z0)) [.undef]) | _ => fun _ => none
noncomputable def code_44 : Code := (Tryz.f44.body).getD .skip
noncomputable def E_kit_IsMode (g : C_kit_IsMode) : Env A := mkE [(36, SS_kit_Outside g.kit_Outside)] [] [] [] [] [] [] [] [] []
theorem sm_kit_IsMode (g : C_kit_IsMode) : Same (SS_kit_IsMode (@kit_IsMode_ g)) (abody (E_kit_IsMode g) Tryz.f44 code_44 0 [] [.asis] g.N) := by intro args; unfold SS_kit_IsMode; split; exact .inr fun R k => (by kernel_rfl); exact .inl fun R k => rfl
theorem ok_kit_IsMode [Fuel] : Ok 44 (SS_kit_IsMode (@kit_IsMode _)) := okF_of std (.cons ok_kit_Outside .nil) ⟨rfl, rfl, by kernel_rfl, rfl, rfl, rfl⟩ (sm_kit_IsMode I_kit_IsMode) (cuts0 (fun _ => rfl) (by kernel_rfl)) Tryz.func44 (by kernel_rfl) (by kernel_rfl)
abbrev T_kit_IsKey : Type 1 := List UInt8 → {R : Type} → (Bool → Option R) → Option R
structure C_kit_IsKey where
 N : Nat
 strings_IndexByte : T_strings_IndexByte
 strings_Trim : T_strings_Trim
def kit_IsKey_ (g : C_kit_IsKey) (a1 : List UInt8) {R : Type} (k0 : Bool → Option R) : Option R :=
 (bif (!(a1 == [])) then (bif (decide ((a1.length : Int) ≤ 40)) then (at_ a1 0 fun x2 => (g.strings_IndexByte [97, 98, 99, 100, 101, 102, 103, 104, 105, 106, 107, 108, 109, 110, 111, 112, 113, 114, 115, 116, 117, 118, 119, 120, 121, 122] (x2.toNat : Int) (fun r3 => (bif (decide (r3 ≥ 0)) then (g.strings_Trim a1 [97, 98, 99, 100, 101, 102, 103, 104, 105, 106, 107, 108, 109, 110, 111, 112, 113, 114, 115, 116, 117, 118, 119, 120, 121, 122, 48, 49, 50, 51, 52, 53, 54, 55, 56, 57, 45, 95] (fun r4 => k0 (r4 == []))) else k0 false)))) else k0 false) else k0 false)
noncomputable def I_kit_IsKey [Fuel] : C_kit_IsKey := ⟨NN, @strings_IndexByte _, @strings_Trim _⟩
noncomputable def kit_IsKey [Fuel] : T_kit_IsKey := @kit_IsKey_ I_kit_IsKey
def SS_kit_IsKey (g : T_kit_IsKey) : Spec A := fun args => match args with | [.d (.str a1)] => fun k => g a1 (fun z0 => k (.d (.bool z0)) [.undef]) | _ => fun _ => none
noncomputable def code_28 : Code := (Tryz.f28.body).getD .skip
noncomputable def E_kit_IsKey (g : C_kit_IsKey) : Env A := mkE [(56, SS_strings_IndexByte g.strings_IndexByte), (57, SS_strings_Trim g.strings_Trim)] [] [] [] [] [] [] [] [] []
theorem sm_kit_IsKey (g : C_kit_IsKey) : Same (SS_kit_IsKey (@kit_IsKey_ g)) (abody (E_kit_IsKey g) Tryz.f28 code_28 0 [] [.asis] g.N) := by intro args; unfold SS_kit_IsKey; split; exact .inr fun R k => (by kernel_rfl); exact .inl fun R k => rfl
theorem ok_kit_IsKey [Fuel] : Ok 28 (SS_kit_IsKey (@kit_IsKey _)) := okF_of std (.cons ok_strings_IndexByte (.cons ok_strings_Trim .nil)) ⟨rfl, rfl, by kernel_rfl, rfl, rfl, rfl⟩ (sm_kit_IsKey I_kit_IsKey) (cuts0 (fun _ => rfl) (by kernel_rfl)) Tryz.func28 (by kernel_rfl) (by kernel_rfl)
abbrev T_call_isLetter : Type 1 := Int → {R : Type} → (Bool → Option R) → Option R
def call_isLetter_ (g : Nat) (a1 : Int) {R : Type} (k0 : Bool → Option R) : Option R :=
 (bif (decide (a1 ≥ 97)) then k0 (decide (a1 ≤ 122)) else k0 false)
noncomputable def call_isLetter [Fuel] : T_call_isLetter := @call_isLetter_ NN
def SS_call_isLetter (g : T_call_isLetter) : Spec A := fun args => match args with | [.d (.int .u8 a1)] => fun k => g a1 (fun z0 => k (.d (.bool z0)) [.undef]) | _ => fun _ => none
noncomputable def code_184 : Code := (Tryz.f184.body).getD .skip
noncomputable def E_call_isLetter (g : Nat) : Env A := mkE [] [] [] [] [] [] [] [] [] []
theorem sm_call_isLetter (g : Nat) : Same (SS_call_isLetter (@call_isLetter_ g)) (abody (E_call_isLetter g) Tryz.f184 code_184 0 [] [.asis] g) := by intro args; unfold SS_call_isLetter; split; exact .inr fun R k => (by kernel_rfl); exact .inl fun R k => rfl
theorem ok_call_isLetter [Fuel] : Ok 184 (SS_call_isLetter (@call_isLetter _)) := okF_of std .nil ⟨rfl, rfl, by kernel_rfl, rfl, rfl, rfl⟩ (sm_call_isLetter NN) (cuts0 (fun _ => rfl) (by kernel_rfl)) Tryz.func184 (by kernel_rfl) (by kernel_rfl)
abbrev T_call_isDigit : Type 1 := Int → {R : Type} → (Bool → Option R) → Option R
def call_isDigit_ (g : Nat) (a1 : Int) {R : Type} (k0 : Bool → Option R) : Option R :=
 (bif (decide (a1 ≥ 48)) then k0 (decide (a1 ≤ 57)) else k0 false)
noncomputable def call_isDigit [Fuel] : T_call_isDigit := @call_isDigit_ NN
def SS_call_isDigit (g : T_call_isDigit) : Spec A := fun args => match args with | [.d (.int .u8 a1)] => fun k => g a1 (fun z0 => k (.d (.bool z0)) [.undef]) | _ => fun _ => none
noncomputable def code_153 : Code := (Tryz.f153.body).getD .skip
noncomputable def E_call_isDigit (g : Nat) : Env A := mkE [] [] [] [] [] [] [] [] [] []
theorem sm_call_isDigit (g : Nat) : Same (SS_call_isDigit (@call_isDigit_ g)) (abody (E_call_isDigit g) Tryz.f153 code_153 0 [] [.asis] g) := by intro args; unfold SS_call_isDigit; split; exact .inr fun R k => (by kernel_rfl); exact .inl fun R k => rfl
theorem ok_call_isDigit [Fuel] : Ok 153 (SS_call_isDigit (@call_isDigit _)) := okF_of std .nil ⟨rfl, rfl, by kernel_rfl, rfl, rfl, rfl⟩ (sm_call_isDigit NN) (cuts0 (fun _ => rfl) (by kernel_rfl)) Tryz.func153 (by kernel_rfl) (by kernel_rfl)
abbrev T_call_isPlain : Type 1 := List UInt8 → {R : Type} → (Int → Bool → Option R) → Option R
structure C_call_isPlain where
 N : Nat
 call_isDigit : T_call_isDigit
 call_isLetter : T_call_isLetter
def call_isPlain_L2 (g : C_call_isPlain) : Nat → List UInt8 → Int → Int → Int → {R : Type} → (Int → Bool → Option R) → (Int → Option R) → Option R
 | 0, _, _, _, _, _, _, _ => none
 | n + 1, v2, v3, v4, v5, _, e0, e1 => (bif (decide (v5 < v4)) then (get_ v2 v5 fun x10 => (g.call_isLetter (x10.toNat : Int) (fun r11 => (bif r11 then call_isPlain_L2 g n v2 (w64 (v3 + 1)) v4 (w64 (v5 + 1)) e0 e1 else (get_ v2 v5 fun x12 => (g.call_isDigit (x12.toNat : Int) (fun r13 => (bif (!r13) then e0 0 false else call_isPlain_L2 g n v2 v3 v4 (w64 (v5 + 1)) e0 e1)))))))) else e1 v3)
def call_isPlain_ (g : C_call_isPlain) (a1 : List UInt8) {R : Type} (k0 : Int → Bool → Option R) : Option R :=
 (call_isPlain_L2 g g.N a1 0 (a1.length : Int) 0 (fun e14 e15 => k0 e14 e15) (fun e16 => k0 e16 true))
noncomputable def I_call_isPlain [Fuel] : C_call_isPlain := ⟨NN, @call_isDigit _, @call_isLetter _⟩
noncomputable def call_isPlain [Fuel] : T_call_isPlain := @call_isPlain_ I_call_isPlain
def SS_call_isPlain (g : T_call_isPlain) : Spec A := fun args => match args with | [.d (.str a1)] => fun k => g a1 (fun z0 z1 => k (.tup [.d (.int .i64 z0), .d (.bool z1)]) [.undef]) | _ => fun _ => none
def sh_call_isPlain_L2 : SSt := mkSh 25 0 [(0, .str), (2, .int .i64), (6, .int .i64), (7, .int .i64)] []
def LP_call_isPlain_L2 (g : C_call_isPlain) (n : Nat) : LPT A := fun ps => match ps with | [.d (.str p1), .d (.int .i64 p2), .d (.int .i64 p3), .d (.int .i64 p4)] => fun K => call_isPlain_L2 g n p1 p2 p3 p4 (fun z0 z1 => K .ret (mkSt 25 0 [(2, .d (.int .i64 z0)), (3, .d (.bool z1))] [])) (fun z0 => K (.exit 0) (mkSt 25 0 [(2, .d (.int .i64 z0))] [])) | _ => fun _ => none
noncomputable def code_152 : Code := (Tryz.f152.body).getD .skip
noncomputable def E_call_isPlain (g : C_call_isPlain) : Env A := mkE [(153, SS_call_isDigit g.call_isDigit), (184, SS_call_isLetter g.call_isLetter)] [] [(2, ⟨[0, 2, 6, 7], [], [], [], [], []⟩)] [(2, ⟨[2, 3], [], [], [], [], []⟩)] [(2, pieceOf sh_call_isPlain_L2 (LP_call_isPlain_L2 g g.N))] [] [] [] [] []
theorem ct_call_isPlain [Fuel] : NatTab (E_call_isPlain I_call_isPlain).C := ct_of (P := Tryz.prog) (T := T) (.cons ok_call_isDigit (.cons ok_call_isLetter .nil)) (by kernel_rfl)
noncomputable def cb_call_isPlain_L2 : Code := sub [1, 0, 1, 0, 0] code_152
theorem s_call_isPlain_L2 (g : C_call_isPlain) (n : Nat) : StepOk (E_call_isPlain g) g.N cb_call_isPlain_L2 sh_call_isPlain_L2 (LP_call_isPlain_L2 g) n := by intro ps; unfold LP_call_isPlain_L2; split; exact .inr fun R K => (by kernel_rfl); exact .inl fun R K => rfl
theorem lf_call_isPlain_L2 [Fuel] : LoopFine (E_call_isPlain I_call_isPlain) NN cb_call_isPlain_L2 := fine_loop sh_call_isPlain_L2 (LP_call_isPlain_L2 I_call_isPlain) (by kernel_rfl) ct_call_isPlain (cuts0 (fun _ => rfl) (by kernel_rfl)) (fun ps R K => by unfold LP_call_isPlain_L2; split <;> (try unfold call_isPlain_L2) <;> rfl) (s_call_isPlain_L2 I_call_isPlain)
theorem sm_call_isPlain (g : C_call_isPlain) : Same (SS_call_isPlain (@call_isPlain_ g)) (abody (E_call_isPlain g) Tryz.f152 code_152 0 [] [.asis, .asis] g.N) := by intro args; unfold SS_call_isPlain; split; exact .inr fun R k => (by kernel_rfl); exact .inl fun R k => rfl
theorem ok_call_isPlain [Fuel] : Ok 152 (SS_call_isPlain (@call_isPlain _)) := okF_of std (.cons ok_call_isDigit (.cons ok_call_isLetter .nil)) ⟨rfl, rfl, by kernel_rfl, rfl, rfl, rfl⟩ (sm_call_isPlain I_call_isPlain) (cutsL (fun _ => rfl) (.cons lf_call_isPlain_L2 .nil) (by kernel_rfl)) Tryz.func152 (by kernel_rfl) (by kernel_rfl)
abbrev T_call_split : Type 1 := List UInt8 → {R : Type} → (Int → Bool → Option R) → Option R
structure C_call_split where
 N : Nat
 strings_LastIndexAny : T_strings_LastIndexAny
 call_isPlain : T_call_isPlain
def call_split_ (g : C_call_split) (a1 : List UInt8) {R : Type} (k0 : Int → Bool → Option R) : Option R :=
 (g.call_isPlain a1 (fun r2 r3 => (bif (!r3) then k0 0 false else (bif (decide ((a1.length : Int) > 10)) then k0 0 false else (g.strings_LastIndexAny a1 [48, 49, 50, 51, 52, 53, 54, 55, 56, 57] (fun r4 => (bif (decide (r4 < 1)) then k0 0 false else (bif (decide (r4 > 3)) then k0 0 false else (bif (decide ((w64 ((w64 ((a1.length : Int) - r4)) - 1)) < 1)) then k0 0 false else (bif (decide ((w64 ((w64 ((a1.length : Int) - r4)) - 1)) > 4)) then k0 0 false else (bif (decide (0 ≤ r4) && decide (r4 ≤ (a1.length : Int))) then (g.call_isPlain (a1.take (r4 : Int).toNat) (fun r5 r6 => k0 r4 (decide (r5 > 0)))) else none)))))))))))
noncomputable def I_call_split [Fuel] : C_call_split := ⟨NN, @strings_LastIndexAny _, @call_isPlain _⟩
noncomputable def call_split [Fuel] : T_call_split := @call_split_ I_call_split
def SS_call_split (g : T_call_split) : Spec A := fun args => match args with | [.d (.str a1)] => fun k => g a1 (fun z0 z1 => k (.tup [.d (.int .i64 z0), .d (.bool z1)]) [.undef]) | _ => fun _ => none
noncomputable def code_151 : Code := (Tryz.f151.body).getD .skip
noncomputable def E_call_split (g : C_call_split) : Env A := mkE [(108, SS_strings_LastIndexAny g.strings_LastIndexAny), (152, SS_call_isPlain g.call_isPlain)] [] [] [] [] [] [] [] [] []
theorem sm_call_split (g : C_call_split) : Same (SS_call_split (@call_split_ g)) (abody (E_call_split g) Tryz.f151 code_151 0 [] [.asis, .asis] g.N) := by intro args; unfold SS_call_split; split; exact .inr fun R k => (by kernel_rfl); exact .inl fun R k => rfl
theorem ok_call_split [Fuel] : Ok 151 (SS_call_split (@call_split _)) := okF_of std (.cons ok_strings_LastIndexAny (.cons ok_call_isPlain .nil)) ⟨rfl, rfl, by kernel_rfl, rfl, rfl, rfl⟩ (sm_call_split I_call_split) (cuts0 (fun _ => rfl) (by kernel_rfl)) Tryz.func151 (by kernel_rfl) (by kernel_rfl)
abbrev T_call_based : Type 1 := List UInt8 → {R : Type} → (G_Parts → Bool → Option R) → Option R
structure C_call_based where
 N : Nat
 call_split : T_call_split
def call_based_ (g : C_call_based) (a1 : List UInt8) {R : Type} (k0 : G_Parts → Bool → Option R) : Option R :=
 (g.call_split a1 (fun r2 r3 => (bif (!r3) then k0 (⟨[], [], [], 0, []⟩ : G_Parts) false else (bif (decide (0 ≤ (w64 (r2 + 1))) && decide ((w64 (r2 + 1)) ≤ (a1.length : Int))) then (bif (decide (0 ≤ (w64 (r2 + 1))) && decide ((w64 (r2 + 1)) ≤ (a1.length : Int))) then k0 (⟨a1, (a1.take ((w64 (r2 + 1)) : Int).toNat), (a1.drop ((w64 (r2 + 1)) : Int).toNat), 0, []⟩ : G_Parts) true else none) else none))))
noncomputable def I_call_based [Fuel] : C_call_based := ⟨NN, @call_split _⟩
noncomputable def call_based [Fuel] : T_call_based := @call_based_ I_call_based
def SS_call_based (g : T_call_based) : Spec A := fun args => match args with | [.d (.str a1)] => fun k => g a1 (fun z0 z1 => k (.tup [.agg [.d (.str z0.f_Base), .d (.str z0.f_Prefix), .d (.str z0.f_Suffix), .d (.int .i64 z0.f_Kind), .d (.str z0.f_Added)], .d (.bool z1)]) [.undef]) | _ => fun _ => none
noncomputable def code_120 : Code := (Tryz.f120.body).getD .skip
noncomputable def E_call_based (g : C_call_based) : Env A := mkE [(151, SS_call_split g.call_split)] [(2, [0])] [] [] [] [] [] [] [] []
theorem sm_call_based (g : C_call_based) : Same (SS_call_based (@call_based_ g)) (abody (E_call_based g) Tryz.f120 code_120 1 [] [.asis, .asis] g.N) := by intro args; unfold SS_call_based; split; exact .inr fun R k => (by kernel_rfl); exact .inl fun R k => rfl
theorem ok_call_based [Fuel] : Ok 120 (SS_call_based (@call_based _)) := okF_of std (.cons ok_call_split .nil) ⟨rfl, rfl, by kernel_rfl, rfl, rfl, rfl⟩ (sm_call_based I_call_based) (cuts0 (fun _ => rfl) (by kernel_rfl)) Tryz.func120 (by kernel_rfl) (by kernel_rfl)
abbrev T_call_isBegin : Type 1 := List UInt8 → {R : Type} → (Bool → Option R) → Option R
structure C_call_isBegin where
 N : Nat
 call_isPlain : T_call_isPlain
def call_isBegin_ (g : C_call_isBegin) (a1 : List UInt8) {R : Type} (k0 : Bool → Option R) : Option R :=
 (g.call_isPlain a1 (fun r2 r3 => (bif r3 then (bif (decide (r2 > 0)) then k0 (decide ((a1.length : Int) ≤ 4)) else k0 false) else k0 false)))
noncomputable def I_call_isBegin [Fuel] : C_call_isBegin := ⟨NN, @call_isPlain _⟩
noncomputable def call_isBegin [Fuel] : T_call_isBegin := @call_isBegin_ I_call_isBegin
def SS_call_isBegin (g : T_call_isBegin) : Spec A := fun args => match args with | [.d (.str a1)] => fun k => g a1 (fun z0 => k (.d (.bool z0)) [.undef]) | _ => fun _ => none
noncomputable def code_121 : Code := (Tryz.f121.body).getD .skip
noncomputable def E_call_isBegin (g : C_call_isBegin) : Env A := mkE [(152, SS_call_isPlain g.call_isPlain)] [] [] [] [] [] [] [] [] []
theorem sm_call_isBegin (g : C_call_isBegin) : Same (SS_call_isBegin (@call_isBegin_ g)) (abody (E_call_isBegin g) Tryz.f121 code_121 0 [] [.asis] g.N) := by intro args; unfold SS_call_isBegin; split; exact .inr fun R k => (by kernel_rfl); exact .inl fun R k => rfl
theorem ok_call_isBegin [Fuel] : Ok 121 (SS_call_isBegin (@call_isBegin _)) := okF_of std (.cons ok_call_isPlain .nil) ⟨rfl, rfl, by kernel_rfl, rfl, rfl, rfl⟩ (sm_call_isBegin I_call_isBegin) (cuts0 (fun _ => rfl) (by kernel_rfl)) Tryz.func121 (by kernel_rfl) (by kernel_rfl)
abbrev T_call_tail : Type 1 := List UInt8 → {R : Type} → (Int → List UInt8 → Bool → Option R) → Option R
structure C_call_tail where
 N : Nat
 call_isBegin : T_call_isBegin
 call_isDigit : T_call_isDigit
def call_tail_ (g : C_call_tail) (a1 : List UInt8) {R : Type} (k0 : Int → List UInt8 → Bool → Option R) : Option R :=
 (bif (a1 == [112]) then k0 3 [] true else (bif (a1 == [109]) then k0 4 [] true else (bif (a1 == [109, 109]) then k0 5 [] true else (bif (a1 == [97, 109]) then k0 6 [] true else (bif ((a1.length : Int) == 1) then (at_ a1 0 fun x2 => (g.call_isDigit (x2.toNat : Int) (fun r3 => (bif r3 then k0 2 a1 true else (g.call_isBegin a1 (fun r4 => k0 1 a1 r4)))))) else (g.call_isBegin a1 (fun r5 => k0 1 a1 r5)))))))
noncomputable def I_call_tail [Fuel] : C_call_tail := ⟨NN, @call_isBegin _, @call_isDigit _⟩
noncomputable def call_tail [Fuel] : T_call_tail := @call_tail_ I_call_tail
def SS_call_tail (g : T_call_tail) : Spec A := fun args => match args with | [.d (.str a1)] => fun k => g a1 (fun z0 z1 z2 => k (.tup [.d (.int .i64 z0), .d (.str z1), .d (.bool z2)]) [.undef]) | _ => fun _ => none
noncomputable def code_122 : Code := (Tryz.f122.body).getD .skip
noncomputable def E_call_tail (g : C_call_tail) : Env A := mkE [(121, SS_call_isBegin g.call_isBegin), (153, SS_call_isDigit g.call_isDigit)] [] [] [] [] [] [] [] [] []
theorem sm_call_tail (g : C_call_tail) : Same (SS_call_tail (@call_tail_ g)) (abody (E_call_tail g) Tryz.f122 code_122 0 [] [.asis, .asis, .asis] g.N) := by intro args; unfold SS_call_tail; split; exact .inr fun R k => (by kernel_rfl); exact .inl fun R k => rfl
theorem ok_call_tail [Fuel] : Ok 122 (SS_call_tail (@call_tail _)) := okF_of std (.cons ok_call_isBegin (.cons ok_call_isDigit .nil)) ⟨rfl, rfl, by kernel_rfl, rfl, rfl, rfl⟩ (sm_call_tail I_call_tail) (cuts0 (fun _ => rfl) (by kernel_rfl)) Tryz.func122 (by kernel_rfl) (by kernel_rfl)
abbrev T_call_Parts : Type 1 := List UInt8 → {R : Type} → (G_Parts → Bool → Option R) → Option R
structure C_call_Parts where
 N : Nat
 strings_Cut : T_strings_Cut
 call_based : T_call_based
 call_isBegin : T_call_isBegin
 call_tail : T_call_tail
def call_Parts_ (g : C_call_Parts) (a1 : List UInt8) {R : Type} (k0 : G_Parts → Bool → Option R) : Option R :=
 (bif (decide ((a1.length : Int) > 14)) then k0 (⟨[], [], [], 0, []⟩ : G_Parts) false else (g.call_based a1 (fun r2 r3 => (bif r3 then k0 r2 true else (g.strings_Cut a1 [47] (fun r4 r5 r6 => (bif (!r6) then k0 (⟨[], [], [], 0, []⟩ : G_Parts) false else (g.call_based r5 (fun r7 r8 => (bif r8 then (g.call_isBegin r4 (fun r9 => (bif r9 then k0 (⟨r7.f_Base, r7.f_Prefix, r7.f_Suffix, 1, r4⟩ : G_Parts) true else (g.call_based r4 (fun r10 r11 => (g.call_tail r5 (fun r12 r13 r14 => (bif (!r11) then k0 (⟨[], [], [], 0, []⟩ : G_Parts) false else (bif (!r14) then k0 (⟨[], [], [], 0, []⟩ : G_Parts) false else k0 (⟨r10.f_Base, r10.f_Prefix, r10.f_Suffix, r12, r13⟩ : G_Parts) true))))))))) else (g.call_based r4 (fun r15 r16 => (g.call_tail r5 (fun r17 r18 r19 => (bif (!r16) then k0 (⟨[], [], [], 0, []⟩ : G_Parts) false else (bif (!r19) then k0 (⟨[], [], [], 0, []⟩ : G_Parts) false else k0 (⟨r15.f_Base, r15.f_Prefix, r15.f_Suffix, r17, r18⟩ : G_Parts) true))))))))))))))))
noncomputable def I_call_Parts [Fuel] : C_call_Parts := ⟨NN, @strings_Cut _, @call_based _, @call_isBegin _, @call_tail _⟩
noncomputable def call_Parts [Fuel] : T_call_Parts := @call_Parts_ I_call_Parts
def SS_call_Parts (g : T_call_Parts) : Spec A := fun args => match args with | [.d (.str a1)] => fun k => g a1 (fun z0 z1 => k (.tup [.agg [.d (.str z0.f_Base), .d (.str z0.f_Prefix), .d (.str z0.f_Suffix), .d (.int .i64 z0.f_Kind), .d (.str z0.f_Added)], .d (.bool z1)]) [.undef]) | _ => fun _ => none
noncomputable def code_88 : Code := (Tryz.f88.body).getD .skip
noncomputable def E_call_Parts (g : C_call_Parts) : Env A := mkE [(70, SS_strings_Cut g.strings_Cut), (120, SS_call_based g.call_based), (121, SS_call_isBegin g.call_isBegin), (122, SS_call_tail g.call_tail)] [(2, [0]), (4, [1]), (9, [2]), (11, [3])] [] [] [] [] [] [] [] []
theorem sm_call_Parts (g : C_call_Parts) : Same (SS_call_Parts (@call_Parts_ g)) (abody (E_call_Parts g) Tryz.f88 code_88 4 [] [.asis, .asis] g.N) := by intro args; unfold SS_call_Parts; split; exact .inr fun R k => (by kernel_rfl); exact .inl fun R k => rfl
theorem ok_call_Parts [Fuel] : Ok 88 (SS_call_Parts (@call_Parts _)) := okF_of std (.cons ok_strings_Cut (.cons ok_call_based (.cons ok_call_isBegin (.cons ok_call_tail .nil)))) ⟨rfl, rfl, by kernel_rfl, rfl, rfl, rfl⟩ (sm_call_Parts I_call_Parts) (cuts0 (fun _ => rfl) (by kernel_rfl)) Tryz.func88 (by kernel_rfl) (by kernel_rfl)
abbrev T_call_Is : Type 1 := List UInt8 → {R : Type} → (Bool → Option R) → Option R
structure C_call_Is where
 N : Nat
 call_Parts : T_call_Parts
def call_Is_ (g : C_call_Is) (a1 : List UInt8) {R : Type} (k0 : Bool → Option R) : Option R :=
 (g.call_Parts a1 (fun r2 r3 => k0 r3))
noncomputable def I_call_Is [Fuel] : C_call_Is := ⟨NN, @call_Parts _⟩
noncomputable def call_Is [Fuel] : T_call_Is := @call_Is_ I_call_Is
def SS_call_Is (g : T_call_Is) : Spec A := fun args => match args with | [.d (.str a1)] => fun k => g a1 (fun z0 => k (.d (.bool z0)) [.undef]) | _ => fun _ => none
noncomputable def code_52 : Code := (Tryz.f52.body).getD .skip
noncomputable def E_call_Is (g : C_call_Is) : Env A := mkE [(88, SS_call_Parts g.call_Parts)] [(3, [0])] [] [] [] [] [] [] [] []
theorem sm_call_Is (g : C_call_Is) : Same (SS_call_Is (@call_Is_ g)) (abody (E_call_Is g) Tryz.f52 code_52 1 [] [.asis] g.N) := by intro args; unfold SS_call_Is; split; exact .inr fun R k => (by kernel_rfl); exact .inl fun R k => rfl
theorem ok_call_Is [Fuel] : Ok 52 (SS_call_Is (@call_Is _)) := okF_of std (.cons ok_call_Parts .nil) ⟨rfl, rfl, by kernel_rfl, rfl, rfl, rfl⟩ (sm_call_Is I_call_Is) (cuts0 (fun _ => rfl) (by kernel_rfl)) Tryz.func52 (by kernel_rfl) (by kernel_rfl)
abbrev T_kit_IsName : Type 1 := List UInt8 → {R : Type} → (Bool → Option R) → Option R
structure C_kit_IsName where
 N : Nat
 kit_IsKey : T_kit_IsKey
def kit_IsName_ (g : C_kit_IsName) (a1 : List UInt8) {R : Type} (k0 : Bool → Option R) : Option R :=
 (bif (a1 == []) then k0 true else (g.kit_IsKey a1 (fun r2 => k0 r2)))
noncomputable def I_kit_IsName [Fuel] : C_kit_IsName := ⟨NN, @kit_IsKey _⟩
noncomputable def kit_IsName [Fuel] : T_kit_IsName := @kit_IsName_ I_kit_IsName
def SS_kit_IsName (g : T_kit_IsName) : Spec A := fun args => match args with | [.d (.str a1)] => fun k => g a1 (fun z0 => k (.d (.bool z0)) [.undef]) | _ => fun _ => none
noncomputable def code_106 : Code := (Tryz.f106.body).getD .skip
noncomputable def E_kit_IsName (g : C_kit_IsName) : Env A := mkE [(28, SS_kit_IsKey g.kit_IsKey)] [] [] [] [] [] [] [] [] []
theorem sm_kit_IsName (g : C_kit_IsName) : Same (SS_kit_IsName (@kit_IsName_ g)) (abody (E_kit_IsName g) Tryz.f106 code_106 0 [] [.asis] g.N) := by intro args; unfold SS_kit_IsName; split; exact .inr fun R k => (by kernel_rfl); exact .inl fun R k => rfl
theorem ok_kit_IsName [Fuel] : Ok 106 (SS_kit_IsName (@kit_IsName _)) := okF_of std (.cons ok_kit_IsKey .nil) ⟨rfl, rfl, by kernel_rfl, rfl, rfl, rfl⟩ (sm_kit_IsName I_kit_IsName) (cuts0 (fun _ => rfl) (by kernel_rfl)) Tryz.func106 (by kernel_rfl) (by kernel_rfl)
abbrev T_log_CheckContact : Type 1 := G_Contact → {R : Type} → (Int → Option R) → Option R
structure C_log_CheckContact where
 N : Nat
 kit_IsKey : T_kit_IsKey
 kit_Outside : T_kit_Outside
 kit_IsMode : T_kit_IsMode
 kit_IsMoment : T_kit_IsMoment
 call_Is : T_call_Is
 kit_IsName : T_kit_IsName
def log_CheckContact_ (g : C_log_CheckContact) (a1 : G_Contact) {R : Type} (k0 : Int → Option R) : Option R :=
 (g.kit_IsMoment a1.f_At (fun r2 => (bif (!r2) then k0 1 else (g.kit_IsMode a1.f_Mode (fun r3 => (bif (!r3) then k0 4 else (g.kit_IsKey a1.f_Band (fun r4 => (bif (!r4) then k0 5 else (g.call_Is a1.f_Call (fun r5 => (bif (!r5) then k0 3 else (g.kit_Outside a1.f_Sent 0 99999 (fun r6 => (bif r6 then k0 1 else (g.kit_Outside a1.f_Heard 0 99999 (fun r7 => (bif r7 then k0 1 else (g.kit_IsName a1.f_Gave (fun r8 => (bif (!r8) then k0 5 else (g.kit_IsName a1.f_Got (fun r9 => (bif (!r9) then k0 5 else k0 0))))))))))))))))))))))))
noncomputable def I_log_CheckContact [Fuel] : C_log_CheckContact := ⟨NN, @kit_IsKey _, @kit_Outside _, @kit_IsMode _, @kit_IsMoment _, @call_Is _, @kit_IsName _⟩
noncomputable def log_CheckContact [Fuel] : T_log_CheckContact := @log_CheckContact_ I_log_CheckContact
def SS_log_CheckContact (g : T_log_CheckContact) : Spec A := fun args => match args with | [.agg [.d (.int .i64 a1), .d (.int .i64 a2), .d (.str a3), .d (.str a4), .d (.int .i64 a5), .d (.int .i64 a6), .d (.str a7), .d (.str a8)]] => fun k => g ⟨a1, a2, a3, a4, a5, a6, a7, a8⟩ (fun z0 => k (.d (.int .i64 z0)) [.undef]) | _ => fun _ => none
noncomputable def code_68 : Code := (Tryz.f68.body).getD .skip
noncomputable def E_log_CheckContact (g : C_log_CheckContact) : Env A := mkE [(28, SS_kit_IsKey g.kit_IsKey), (36, SS_kit_Outside g.kit_Outside), (44, SS_kit_IsMode g.kit_IsMode), (45, SS_kit_IsMoment g.kit_IsMoment), (52, SS_call_Is g.call_Is), (106, SS_kit_IsName g.kit_IsName)] [(1, [0])] [] [] [] [] [] [] [] []
theorem sm_log_CheckContact (g : C_log_CheckContact) : Same (SS_log_CheckContact (@log_CheckContact_ g)) (abody (E_log_CheckContact g) Tryz.f68 code_68 1 [] [.asis] g.N) := by intro args; unfold SS_log_CheckContact; split; exact .inr fun R k => (by kernel_rfl); exact .inl fun R k => rfl
theorem ok_log_CheckContact [Fuel] : Ok 68 (SS_log_CheckContact (@log_CheckContact _)) := okF_of std (.cons ok_kit_IsKey (.cons ok_kit_Outside (.cons ok_kit_IsMode (.cons ok_kit_IsMoment (.cons ok_call_Is (.cons ok_kit_IsName .nil)))))) ⟨rfl, rfl, by kernel_rfl, rfl, rfl, rfl⟩ (sm_log_CheckContact I_log_CheckContact) (cuts0 (fun _ => rfl) (by kernel_rfl)) Tryz.func68 (by kernel_rfl) (by kernel_rfl)
abbrev T_cmp_isNaN__int : Type 1 := Int → {R : Type} → (Bool → Option R) → Option R
def cmp_isNaN__int_ (g : Nat) (a1 : Int) {R : Type} (k0 : Bool → Option R) : Option R :=
 k0 (a1 != a1)
noncomputable def cmp_isNaN__int [Fuel] : T_cmp_isNaN__int := @cmp_isNaN__int_ NN
def SS_cmp_isNaN__int (g : T_cmp_isNaN__int) : Spec A := fun args => match args with | [.d (.int .i64 a1)] => fun k => g a1 (fun z0 => k (.d (.bool z0)) [.undef]) | _ => fun _ => none
noncomputable def code_101 : Code := (Tryz.f101.body).getD .skip
noncomputable def E_cmp_isNaN__int (g : Nat) : Env A := mkE [] [] [] [] [] [] [] [] [] []
theorem sm_cmp_isNaN__int (g : Nat) : Same (SS_cmp_isNaN__int (@cmp_isNaN__int_ g)) (abody (E_cmp_isNaN__int g) Tryz.f101 code_101 0 [] [.asis] g) := by intro args; unfold SS_cmp_isNaN__int; split; exact .inr fun R k => (by kernel_rfl); exact .inl fun R k => rfl
theorem ok_cmp_isNaN__int [Fuel] : Ok 101 (SS_cmp_isNaN__int (@cmp_isNaN__int _)) := okF_of std .nil ⟨rfl, rfl, by kernel_rfl, rfl, rfl, rfl⟩ (sm_cmp_isNaN__int NN) (cuts0 (fun _ => rfl) (by kernel_rfl)) Tryz.func101 (by kernel_rfl) (by kernel_rfl)
noncomputable def Ed_cmp_isNaN__int (g : Nat) : Env A := mkED [] [] [] [] [] [] [] [] [] []
theorem smd_cmp_isNaN__int (g : Nat) : Same (SS_cmp_isNaN__int (@cmp_isNaN__int_ g)) (abody (Ed_cmp_isNaN__int g) Tryz.f101 code_101 0 [] [.asis] g) := by intro args; unfold SS_cmp_isNaN__int; split; exact .inr fun R k => (by kernel_rfl); exact .inl fun R k => rfl
theorem okd_cmp_isNaN__int [Fuel] : OkD 101 (SS_cmp_isNaN__int (@cmp_isNaN__int _)) := okF_of stdD .nil ⟨rfl, rfl, by kernel_rfl, rfl, rfl, rfl⟩ (smd_cmp_isNaN__int NN) (cuts0 (fun _ => rfl) (by kernel_rfl)) Tryz.func101 (by kernel_rfl) (by kernel_rfl)
abbrev T_cmp_Compare__int : Type 1 := Int → Int → {R : Type} → (Int → Option R) → Option R
structure C_cmp_Compare__int where
 N : Nat
 cmp_isNaN__int : T_cmp_isNaN__int
def cmp_Compare__int_ (g : C_cmp_Compare__int) (a1 a2 : Int) {R : Type} (k0 : Int → Option R) : Option R :=
 (g.cmp_isNaN__int a1 (fun r3 => (g.cmp_isNaN__int a2 (fun r4 => (bif r3 then (bif r4 then k0 0 else k0 (-1)) else (bif r4 then k0 1 else (bif (decide (a1 < a2)) then k0 (-1) else (bif (decide (a1 > a2)) then k0 1 else k0 0))))))))
noncomputable def I_cmp_Compare__int [Fuel] : C_cmp_Compare__int := ⟨NN, @cmp_isNaN__int _⟩
noncomputable def cmp_Compare__int [Fuel] : T_cmp_Compare__int := @cmp_Compare__int_ I_cmp_Compare__int
def SS_cmp_Compare__int (g : T_cmp_Compare__int) : Spec A := fun args => match args with | [.d (.int .i64 a1), .d (.int .i64 a2)] => fun k => g a1 a2 (fun z0 => k (.d (.int .i64 z0)) [.undef, .undef]) | _ => fun _ => none
noncomputable def code_60 : Code := (Tryz.f60.body).getD .skip
noncomputable def E_cmp_Compare__int (g : C_cmp_Compare__int) : Env A := mkE [(101, SS_cmp_isNaN__int g.cmp_isNaN__int)] [] [] [] [] [] [] [] [] []
theorem sm_cmp_Compare__int (g : C_cmp_Compare__int) : Same (SS_cmp_Compare__int (@cmp_Compare__int_ g)) (abody (E_cmp_Compare__int g) Tryz.f60 code_60 0 [] [.asis] g.N) := by intro args; unfold SS_cmp_Compare__int; split; exact .inr fun R k => (by kernel_rfl); exact .inl fun R k => rfl
theorem ok_cmp_Compare__int [Fuel] : Ok 60 (SS_cmp_Compare__int (@cmp_Compare__int _)) := okF_of std (.cons ok_cmp_isNaN__int .nil) ⟨rfl, rfl, by kernel_rfl, rfl, rfl, rfl⟩ (sm_cmp_Compare__int I_cmp_Compare__int) (cuts0 (fun _ => rfl) (by kernel_rfl)) Tryz.func60 (by kernel_rfl) (by kernel_rfl)
noncomputable def Ed_cmp_Compare__int (g : C_cmp_Compare__int) : Env A := mkED [(101, SS_cmp_isNaN__int g.cmp_isNaN__int)] [] [] [] [] [] [] [] [] []
theorem smd_cmp_Compare__int (g : C_cmp_Compare__int) : Same (SS_cmp_Compare__int (@cmp_Compare__int_ g)) (abody (Ed_cmp_Compare__int g) Tryz.f60 code_60 0 [] [.asis] g.N) := by intro args; unfold SS_cmp_Compare__int; split; exact .inr fun R k => (by kernel_rfl); exact .inl fun R k => rfl
theorem okd_cmp_Compare__int [Fuel] : OkD 60 (SS_cmp_Compare__int (@cmp_Compare__int _)) := okF_of stdD (.cons okd_cmp_isNaN__int .nil) ⟨rfl, rfl, by kernel_rfl, rfl, rfl, rfl⟩ (smd_cmp_Compare__int I_cmp_Compare__int) (cuts0 (fun _ => rfl) (by kernel_rfl)) Tryz.func60 (by kernel_rfl) (by kernel_rfl)
end Go.Am
