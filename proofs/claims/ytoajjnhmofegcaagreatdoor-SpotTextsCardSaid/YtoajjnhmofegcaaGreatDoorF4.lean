/- The functions of the program as Lean functions, each shown to be what the code computes, part 4. No condition: lemmas for the claim. -/
import Derived.Test.YtoajjnhmofegcaaGreatDoorF0
import Derived.Test.YtoajjnhmofegcaaGreatDoorFSh
import Derived.Test.YtoajjnhmofegcaaGreatDoorF1
import Derived.Test.YtoajjnhmofegcaaGreatDoorF2
import Derived.Test.YtoajjnhmofegcaaGreatDoorF3
set_option linter.unusedVariables false
set_option maxRecDepth 100000
namespace Go.Am
open Go Go.Proofs
abbrev T_Q_Numbers : Type 1 := List Int → {R : Type} → (List UInt8 → Option R) → Option R
structure C_Q_Numbers where
 N : Nat
 strconv_Itoa : T_strconv_Itoa
 strings_Join : T_strings_Join
def Q_Numbers_L3 (g : C_Q_Numbers) : Nat → List Int → Int → Int → List (List UInt8) → {R : Type} → (List (List UInt8) → Option R) → Option R
 | 0, _, _, _, _, _, _ => none
 | n + 1, v2, v3, v4, v5, _, e0 => (bif (decide (v4 < v3)) then (get_ v2 v4 fun x8 => (g.strconv_Itoa x8 (fun r9 => (bif (decide ((v5.length + [r9].length) * 16 ≤ roomBytes')) then Q_Numbers_L3 g n v2 v3 (w64 (v4 + 1)) (v5 ++ [r9]) e0 else none)))) else e0 v5)
def Q_Numbers_ (g : C_Q_Numbers) (a1 : List Int) {R : Type} (k0 : List UInt8 → Option R) : Option R :=
 (Q_Numbers_L3 g g.N a1 (a1.length : Int) 0 [] (fun e10 => (g.strings_Join e10 [32] (fun r11 => k0 r11))))
noncomputable def I_Q_Numbers [Fuel] : C_Q_Numbers := ⟨NN, @strconv_Itoa _, @strings_Join _⟩
noncomputable def Q_Numbers [Fuel] : T_Q_Numbers := @Q_Numbers_ I_Q_Numbers
def SS_Q_Numbers (g : T_Q_Numbers) : Spec A := fun args => match args with | [.d (.sl 3 a1)] => fun k => g a1 (fun z0 => k (.d (.str z0)) [.undef]) | _ => fun _ => none
def sh_Q_Numbers_L3 : SSt := mkSh 20 3 [(3, .own 9 0), (6, .sl 3), (7, .int .i64), (8, .int .i64)] [(0, .row 9)]
def LP_Q_Numbers_L3 (g : C_Q_Numbers) (n : Nat) : LPT A := fun ps => match ps with | [.d (.sl 3 p1), .d (.int .i64 p2), .d (.int .i64 p3), .d (.sl 9 p4)] => fun K => Q_Numbers_L3 g n p1 p2 p3 p4 (fun z0 => K (.exit 0) (mkSt 20 3 [(3, .own 9 0)] [(0, some (.row 9 z0))])) | _ => fun _ => none
noncomputable def code_99 : Code := (Tryz.f99.body).getD .skip
noncomputable def E_Q_Numbers (g : C_Q_Numbers) : Env A := mkE [(79, SS_strconv_Itoa g.strconv_Itoa), (86, SS_strings_Join g.strings_Join)] [(15, [1]), (16, [2])] [(3, ⟨[3, 6, 7, 8], [(3, 9, 0)], [], [], [], [], []⟩)] [(3, ⟨[3], [], [0], [], [], [], []⟩)] [(3, pieceOf sh_Q_Numbers_L3 (LP_Q_Numbers_L3 g g.N))] [] [] [] [] []
theorem ct_Q_Numbers [Fuel] : NatTab (E_Q_Numbers I_Q_Numbers).C := ct_of (P := Tryz.prog) (T := T) (.cons ok_strconv_Itoa (.cons ok_strings_Join .nil)) (by kernel_rfl)
noncomputable def cb_Q_Numbers_L3 : Code := sub [1, 1, 0, 1, 0, 0] code_99
theorem s_Q_Numbers_L3 (g : C_Q_Numbers) (n : Nat) : StepOk (E_Q_Numbers g) g.N cb_Q_Numbers_L3 sh_Q_Numbers_L3 (LP_Q_Numbers_L3 g) n := by intro ps; unfold LP_Q_Numbers_L3; split; exact .inr fun R K => (by kernel_rfl); exact .inl fun R K => rfl
theorem lf_Q_Numbers_L3 [Fuel] : LoopFine (E_Q_Numbers I_Q_Numbers) NN cb_Q_Numbers_L3 := fine_loop sh_Q_Numbers_L3 (LP_Q_Numbers_L3 I_Q_Numbers) (by kernel_rfl) ct_Q_Numbers (cuts0 (fun _ => rfl) (by kernel_rfl)) (fun ps R K => by unfold LP_Q_Numbers_L3; split <;> (try unfold Q_Numbers_L3) <;> rfl) (s_Q_Numbers_L3 I_Q_Numbers)
theorem sm_Q_Numbers (g : C_Q_Numbers) : Same (SS_Q_Numbers (@Q_Numbers_ g)) (abody (E_Q_Numbers g) Tryz.f99 code_99 3 [] [.asis] g.N) := by intro args; unfold SS_Q_Numbers; split; exact .inr fun R k => (by kernel_rfl); exact .inl fun R k => rfl
theorem ok_Q_Numbers [Fuel] : Ok 99 (SS_Q_Numbers (@Q_Numbers _)) := okF_of std (.cons ok_strconv_Itoa (.cons ok_strings_Join .nil)) ⟨rfl, rfl, by kernel_rfl, rfl, rfl, rfl⟩ (sm_Q_Numbers I_Q_Numbers) (cutsL (fun _ => rfl) (.cons lf_Q_Numbers_L3 .nil) (by kernel_rfl)) Tryz.func99 (by kernel_rfl) (by kernel_rfl)
abbrev T_Q_SpotLines : Type 1 := List G_Spot → {R : Type} → (List UInt8 → Option R) → Option R
structure C_Q_SpotLines where
 N : Nat
 Q_Numbers : T_Q_Numbers
def Q_SpotLines_L3 (g : C_Q_SpotLines) : Nat → List UInt8 → List G_Spot → Int → Int → {R : Type} → (List UInt8 → Option R) → Option R
 | 0, _, _, _, _, _, _ => none
 | n + 1, v2, v3, v4, v5, _, e0 => (bif (decide (v5 < v4)) then (get_ v3 v5 fun x8 => (g.Q_Numbers [x8.f_At, x8.f_Hertz] (fun r9 => (bif (strOk r9 [32]) then (bif (strOk (r9 ++ [32]) x8.f_Call) then (bif (strOk ((r9 ++ [32]) ++ x8.f_Call) [32]) then (bif (strOk (((r9 ++ [32]) ++ x8.f_Call) ++ [32]) x8.f_By) then (bif (strOk ((((r9 ++ [32]) ++ x8.f_Call) ++ [32]) ++ x8.f_By) [10]) then (bif (strOk v2 (((((r9 ++ [32]) ++ x8.f_Call) ++ [32]) ++ x8.f_By) ++ [10])) then Q_SpotLines_L3 g n (v2 ++ (((((r9 ++ [32]) ++ x8.f_Call) ++ [32]) ++ x8.f_By) ++ [10])) v3 v4 (w64 (v5 + 1)) e0 else none) else none) else none) else none) else none) else none)))) else e0 v2)
def Q_SpotLines_ (g : C_Q_SpotLines) (a1 : List G_Spot) {R : Type} (k0 : List UInt8 → Option R) : Option R :=
 (Q_SpotLines_L3 g g.N [] a1 (a1.length : Int) 0 (fun e10 => k0 e10))
noncomputable def I_Q_SpotLines [Fuel] : C_Q_SpotLines := ⟨NN, @Q_Numbers _⟩
noncomputable def Q_SpotLines [Fuel] : T_Q_SpotLines := @Q_SpotLines_ I_Q_SpotLines
def SS_Q_SpotLines (g : T_Q_SpotLines) : Spec A := fun args => match args with | [.d (.sl 61 a1)] => fun k => g a1 (fun z0 => k (.d (.str z0)) [.undef]) | _ => fun _ => none
def sh_Q_SpotLines_L3 : SSt := mkSh 31 2 [(3, .str), (6, .sl 61), (7, .int .i64), (8, .int .i64)] []
def LP_Q_SpotLines_L3 (g : C_Q_SpotLines) (n : Nat) : LPT A := fun ps => match ps with | [.d (.str p1), .d (.sl 61 p2), .d (.int .i64 p3), .d (.int .i64 p4)] => fun K => Q_SpotLines_L3 g n p1 p2 p3 p4 (fun z0 => K (.exit 0) (mkSt 31 2 [(3, .d (.str z0))] [])) | _ => fun _ => none
noncomputable def code_30 : Code := (Tryz.f30.body).getD .skip
noncomputable def E_Q_SpotLines (g : C_Q_SpotLines) : Env A := mkE [(99, SS_Q_Numbers g.Q_Numbers)] [(5, [0]), (17, [1])] [(3, ⟨[3, 6, 7, 8], [], [], [], [], [], []⟩)] [(3, ⟨[3], [], [], [], [], [], []⟩)] [(3, pieceOf sh_Q_SpotLines_L3 (LP_Q_SpotLines_L3 g g.N))] [] [] [] [] []
theorem ct_Q_SpotLines [Fuel] : NatTab (E_Q_SpotLines I_Q_SpotLines).C := ct_of (P := Tryz.prog) (T := T) (.cons ok_Q_Numbers .nil) (by kernel_rfl)
noncomputable def cb_Q_SpotLines_L3 : Code := sub [1, 1, 0, 1, 0, 0] code_30
theorem s_Q_SpotLines_L3 (g : C_Q_SpotLines) (n : Nat) : StepOk (E_Q_SpotLines g) g.N cb_Q_SpotLines_L3 sh_Q_SpotLines_L3 (LP_Q_SpotLines_L3 g) n := by intro ps; unfold LP_Q_SpotLines_L3; split; exact .inr fun R K => (by kernel_rfl); exact .inl fun R K => rfl
theorem lf_Q_SpotLines_L3 [Fuel] : LoopFine (E_Q_SpotLines I_Q_SpotLines) NN cb_Q_SpotLines_L3 := fine_loop sh_Q_SpotLines_L3 (LP_Q_SpotLines_L3 I_Q_SpotLines) (by kernel_rfl) ct_Q_SpotLines (cuts0 (fun _ => rfl) (by kernel_rfl)) (fun ps R K => by unfold LP_Q_SpotLines_L3; split <;> (try unfold Q_SpotLines_L3) <;> rfl) (s_Q_SpotLines_L3 I_Q_SpotLines)
theorem sm_Q_SpotLines (g : C_Q_SpotLines) : Same (SS_Q_SpotLines (@Q_SpotLines_ g)) (abody (E_Q_SpotLines g) Tryz.f30 code_30 2 [] [.asis] g.N) := by intro args; unfold SS_Q_SpotLines; split; exact .inr fun R k => (by kernel_rfl); exact .inl fun R k => rfl
theorem ok_Q_SpotLines [Fuel] : Ok 30 (SS_Q_SpotLines (@Q_SpotLines _)) := okF_of std (.cons ok_Q_Numbers .nil) ⟨rfl, rfl, by kernel_rfl, rfl, rfl, rfl⟩ (sm_Q_SpotLines I_Q_SpotLines) (cutsL (fun _ => rfl) (.cons lf_Q_SpotLines_L3 .nil) (by kernel_rfl)) Tryz.func30 (by kernel_rfl) (by kernel_rfl)
abbrev T_Stream_Changed : Type 1 := G_Stream → List UInt8 → List UInt8 → {R : Type} → (List UInt8 → G_Stream → Option R) → Option R
structure C_Stream_Changed where
 N : Nat
 Stream_Next : T_Stream_Next
def Stream_Changed_ (g : C_Stream_Changed) (a1 : G_Stream) (a2 a3 : List UInt8) {R : Type} (k0 : List UInt8 → G_Stream → Option R) : Option R :=
 (bif (a2 == []) then k0 a3 a1 else (bif (a3 == []) then k0 a3 a1 else (g.Stream_Next a1 (a2.length : Int) (fun r4 r5 => (g.Stream_Next r5 (a3.length : Int) (fun r6 r7 => (get_ a3 r6 fun x8 => (g.Stream_Next r7 3 (fun r9 r10 => (bif (r9 == 0) then (bif (decide (0 ≤ r4) && decide (r4 ≤ (a2.length : Int))) then (bif (decide (0 ≤ (IntKind.i32.wrap (x8.toNat : Int))) && decide ((IntKind.i32.wrap (x8.toNat : Int)) < 128)) then (bif (strOk (a2.take (r4 : Int).toNat) [((IntKind.i32.wrap (x8.toNat : Int))).toNat.toUInt8]) then (bif (decide (0 ≤ (w64 (r4 + 1))) && decide ((w64 (r4 + 1)) ≤ (a2.length : Int))) then (bif (strOk ((a2.take (r4 : Int).toNat) ++ [((IntKind.i32.wrap (x8.toNat : Int))).toNat.toUInt8]) (a2.drop ((w64 (r4 + 1)) : Int).toNat)) then k0 (((a2.take (r4 : Int).toNat) ++ [((IntKind.i32.wrap (x8.toNat : Int))).toNat.toUInt8]) ++ (a2.drop ((w64 (r4 + 1)) : Int).toNat)) r10 else none) else none) else none) else none) else none) else (bif (r9 == 1) then (bif (decide (0 ≤ r4) && decide (r4 ≤ (a2.length : Int))) then (bif (decide (0 ≤ (IntKind.i32.wrap (x8.toNat : Int))) && decide ((IntKind.i32.wrap (x8.toNat : Int)) < 128)) then (bif (strOk (a2.take (r4 : Int).toNat) [((IntKind.i32.wrap (x8.toNat : Int))).toNat.toUInt8]) then (bif (decide (0 ≤ r4) && decide (r4 ≤ (a2.length : Int))) then (bif (strOk ((a2.take (r4 : Int).toNat) ++ [((IntKind.i32.wrap (x8.toNat : Int))).toNat.toUInt8]) (a2.drop (r4 : Int).toNat)) then k0 (((a2.take (r4 : Int).toNat) ++ [((IntKind.i32.wrap (x8.toNat : Int))).toNat.toUInt8]) ++ (a2.drop (r4 : Int).toNat)) r10 else none) else none) else none) else none) else none) else (bif (decide (0 ≤ r4) && decide (r4 ≤ (a2.length : Int))) then (bif (decide (0 ≤ (w64 (r4 + 1))) && decide ((w64 (r4 + 1)) ≤ (a2.length : Int))) then (bif (strOk (a2.take (r4 : Int).toNat) (a2.drop ((w64 (r4 + 1)) : Int).toNat)) then k0 ((a2.take (r4 : Int).toNat) ++ (a2.drop ((w64 (r4 + 1)) : Int).toNat)) r10 else none) else none) else none))))))))))))
noncomputable def I_Stream_Changed [Fuel] : C_Stream_Changed := ⟨NN, @Stream_Next _⟩
noncomputable def Stream_Changed [Fuel] : T_Stream_Changed := @Stream_Changed_ I_Stream_Changed
def SS_Stream_Changed (g : T_Stream_Changed) : Spec A := fun args => match args with | [.box [.d (.sl 3 a1), .d (.int .i64 a2)], .d (.str a3), .d (.str a4)] => fun k => g ⟨a1, a2⟩ a3 a4 (fun z0 z1 => k (.d (.str z0)) [.box [.d (.sl 3 z1.f_L), .d (.int .i64 z1.f_at)], .undef, .undef]) | _ => fun _ => none
noncomputable def code_52 : Code := (Tryz.f52.body).getD .skip
noncomputable def E_Stream_Changed (g : C_Stream_Changed) : Env A := mkE [(50, SS_Stream_Next g.Stream_Next)] [] [] [] [] [] [] [] [] [0]
theorem sm_Stream_Changed (g : C_Stream_Changed) : Same (SS_Stream_Changed (@Stream_Changed_ g)) (abody (E_Stream_Changed g) Tryz.f52 code_52 1 [0] [.asis] g.N) := by intro args; unfold SS_Stream_Changed; split; exact .inr fun R k => (by kernel_rfl); exact .inl fun R k => rfl
theorem ok_Stream_Changed [Fuel] : Ok 52 (SS_Stream_Changed (@Stream_Changed _)) := okF_of std (.cons ok_Stream_Next .nil) ⟨rfl, rfl, by kernel_rfl, rfl, rfl, rfl⟩ (sm_Stream_Changed I_Stream_Changed) (cuts0 (fun _ => rfl) (by kernel_rfl)) Tryz.func52 (by kernel_rfl) (by kernel_rfl)
abbrev T_Stream_SpotText : Type 1 := G_Stream → {R : Type} → (List UInt8 → G_Stream → Option R) → Option R
structure C_Stream_SpotText where
 N : Nat
 Stream_Range : T_Stream_Range
 Q_SpotLines : T_Q_SpotLines
 Stream_Pick : T_Stream_Pick
 Stream_Changed : T_Stream_Changed
 Stream_RightSpots : T_Stream_RightSpots
def Stream_SpotText_L3 (g : C_Stream_SpotText) : Nat → List UInt8 → Int → Int → G_Stream → {R : Type} → (List UInt8 → G_Stream → Option R) → Option R
 | 0, _, _, _, _, _, _ => none
 | n + 1, v9, v10, v11, v12, _, e0 => (bif (decide (v11 < v10)) then (g.Stream_Changed v12 v9 [32, 10, 48, 45, 57, 107] (fun r15 r16 => Stream_SpotText_L3 g n r15 v10 (w64 (v11 + 1)) r16 e0)) else e0 v9 v12)
def Stream_SpotText_ (g : C_Stream_SpotText) (a1 : G_Stream) {R : Type} (k0 : List UInt8 → G_Stream → Option R) : Option R :=
 (g.Stream_Range a1 0 4 (fun r2 r3 => (g.Stream_RightSpots r3 r2 (fun r4 r5 => (g.Q_SpotLines r4 (fun r6 => (g.Stream_Pick r5 [0, 0, 1, 2] (fun r7 r8 => (Stream_SpotText_L3 g g.N r6 r7 0 r8 (fun e17 e18 => k0 e17 e18))))))))))
noncomputable def I_Stream_SpotText [Fuel] : C_Stream_SpotText := ⟨NN, @Stream_Range _, @Q_SpotLines _, @Stream_Pick _, @Stream_Changed _, @Stream_RightSpots _⟩
noncomputable def Stream_SpotText [Fuel] : T_Stream_SpotText := @Stream_SpotText_ I_Stream_SpotText
def SS_Stream_SpotText (g : T_Stream_SpotText) : Spec A := fun args => match args with | [.box [.d (.sl 3 a1), .d (.int .i64 a2)]] => fun k => g ⟨a1, a2⟩ (fun z0 z1 => k (.d (.str z0)) [.box [.d (.sl 3 z1.f_L), .d (.int .i64 z1.f_at)]]) | _ => fun _ => none
def sh_Stream_SpotText_L3 : SSt := mkSh 19 3 [(0, .ptr 0 0), (3, .str), (11, .int .i64), (12, .int .i64)] [(0, .box [.sl 3, .int .i64])]
def LP_Stream_SpotText_L3 (g : C_Stream_SpotText) (n : Nat) : LPT A := fun ps => match ps with | [.d (.str p1), .d (.int .i64 p2), .d (.int .i64 p3), .d (.sl 3 p4), .d (.int .i64 p5)] => fun K => Stream_SpotText_L3 g n p1 p2 p3 ⟨p4, p5⟩ (fun z0 z1 => K (.exit 0) (mkSt 19 3 [(0, .ptr 0 0), (3, .d (.str z0))] [(0, some (.box [.d (.sl 3 z1.f_L), .d (.int .i64 z1.f_at)]))])) | _ => fun _ => none
noncomputable def code_27 : Code := (Tryz.f27.body).getD .skip
noncomputable def E_Stream_SpotText (g : C_Stream_SpotText) : Env A := mkE [(8, SS_Stream_Range g.Stream_Range), (30, SS_Q_SpotLines g.Q_SpotLines), (44, SS_Stream_Pick g.Stream_Pick), (52, SS_Stream_Changed g.Stream_Changed), (97, SS_Stream_RightSpots g.Stream_RightSpots)] [(7, [1]), (10, [2])] [(3, ⟨[0, 3, 11, 12], [], [0], [], [], [], []⟩)] [(3, ⟨[0, 3], [], [0], [], [], [], []⟩)] [(3, pieceOf sh_Stream_SpotText_L3 (LP_Stream_SpotText_L3 g g.N))] [] [] [] [] [0]
theorem ct_Stream_SpotText [Fuel] : NatTab (E_Stream_SpotText I_Stream_SpotText).C := ct_of (P := Tryz.prog) (T := T) (.cons ok_Stream_Range (.cons ok_Q_SpotLines (.cons ok_Stream_Pick (.cons ok_Stream_Changed (.cons ok_Stream_RightSpots .nil))))) (by kernel_rfl)
noncomputable def cb_Stream_SpotText_L3 : Code := sub [1, 1, 0, 1, 0, 0] code_27
theorem s_Stream_SpotText_L3 (g : C_Stream_SpotText) (n : Nat) : StepOk (E_Stream_SpotText g) g.N cb_Stream_SpotText_L3 sh_Stream_SpotText_L3 (LP_Stream_SpotText_L3 g) n := by intro ps; unfold LP_Stream_SpotText_L3; split; exact .inr fun R K => (by kernel_rfl); exact .inl fun R K => rfl
theorem lf_Stream_SpotText_L3 [Fuel] : LoopFine (E_Stream_SpotText I_Stream_SpotText) NN cb_Stream_SpotText_L3 := fine_loop sh_Stream_SpotText_L3 (LP_Stream_SpotText_L3 I_Stream_SpotText) (by kernel_rfl) ct_Stream_SpotText (cuts0 (fun _ => rfl) (by kernel_rfl)) (fun ps R K => by unfold LP_Stream_SpotText_L3; split <;> (try unfold Stream_SpotText_L3) <;> rfl) (s_Stream_SpotText_L3 I_Stream_SpotText)
theorem sm_Stream_SpotText (g : C_Stream_SpotText) : Same (SS_Stream_SpotText (@Stream_SpotText_ g)) (abody (E_Stream_SpotText g) Tryz.f27 code_27 3 [0] [.asis] g.N) := by intro args; unfold SS_Stream_SpotText; split; exact .inr fun R k => (by kernel_rfl); exact .inl fun R k => rfl
theorem ok_Stream_SpotText [Fuel] : Ok 27 (SS_Stream_SpotText (@Stream_SpotText _)) := okF_of std (.cons ok_Stream_Range (.cons ok_Q_SpotLines (.cons ok_Stream_Pick (.cons ok_Stream_Changed (.cons ok_Stream_RightSpots .nil))))) ⟨rfl, rfl, by kernel_rfl, rfl, rfl, rfl⟩ (sm_Stream_SpotText I_Stream_SpotText) (cutsL (fun _ => rfl) (.cons lf_Stream_SpotText_L3 .nil) (by kernel_rfl)) Tryz.func27 (by kernel_rfl) (by kernel_rfl)
abbrev T_kit_Outside : Type 1 := Int → Int → Int → {R : Type} → (Bool → Option R) → Option R
def kit_Outside_ (g : Nat) (a1 a2 a3 : Int) {R : Type} (k0 : Bool → Option R) : Option R :=
 (bif (decide (a1 < a2)) then k0 true else k0 (decide (a1 > a3)))
noncomputable def kit_Outside [Fuel] : T_kit_Outside := @kit_Outside_ NN
def SS_kit_Outside (g : T_kit_Outside) : Spec A := fun args => match args with | [.d (.int .i64 a1), .d (.int .i64 a2), .d (.int .i64 a3)] => fun k => g a1 a2 a3 (fun z0 => k (.d (.bool z0)) [.undef, .undef, .undef]) | _ => fun _ => none
noncomputable def code_134 : Code := (Tryz.f134.body).getD .skip
noncomputable def E_kit_Outside (g : Nat) : Env A := mkE [] [] [] [] [] [] [] [] [] []
theorem sm_kit_Outside (g : Nat) : Same (SS_kit_Outside (@kit_Outside_ g)) (abody (E_kit_Outside g) Tryz.f134 code_134 0 [] [.asis] g) := by intro args; unfold SS_kit_Outside; split; exact .inr fun R k => (by kernel_rfl); exact .inl fun R k => rfl
theorem ok_kit_Outside [Fuel] : Ok 134 (SS_kit_Outside (@kit_Outside _)) := okF_of std .nil ⟨rfl, rfl, by kernel_rfl, rfl, rfl, rfl⟩ (sm_kit_Outside NN) (cuts0 (fun _ => rfl) (by kernel_rfl)) Tryz.func134 (by kernel_rfl) (by kernel_rfl)
abbrev T_kit_IsMoment : Type 1 := Int → {R : Type} → (Bool → Option R) → Option R
structure C_kit_IsMoment where
 N : Nat
 kit_Outside : T_kit_Outside
def kit_IsMoment_ (g : C_kit_IsMoment) (a1 : Int) {R : Type} (k0 : Bool → Option R) : Option R :=
 (g.kit_Outside a1 0 345686399999 (fun r2 => k0 (!r2)))
noncomputable def I_kit_IsMoment [Fuel] : C_kit_IsMoment := ⟨NN, @kit_Outside _⟩
noncomputable def kit_IsMoment [Fuel] : T_kit_IsMoment := @kit_IsMoment_ I_kit_IsMoment
def SS_kit_IsMoment (g : T_kit_IsMoment) : Spec A := fun args => match args with | [.d (.int .i64 a1)] => fun k => g a1 (fun z0 => k (.d (.bool z0)) [.undef]) | _ => fun _ => none
noncomputable def code_133 : Code := (Tryz.f133.body).getD .skip
noncomputable def E_kit_IsMoment (g : C_kit_IsMoment) : Env A := mkE [(134, SS_kit_Outside g.kit_Outside)] [] [] [] [] [] [] [] [] []
theorem sm_kit_IsMoment (g : C_kit_IsMoment) : Same (SS_kit_IsMoment (@kit_IsMoment_ g)) (abody (E_kit_IsMoment g) Tryz.f133 code_133 0 [] [.asis] g.N) := by intro args; unfold SS_kit_IsMoment; split; exact .inr fun R k => (by kernel_rfl); exact .inl fun R k => rfl
theorem ok_kit_IsMoment [Fuel] : Ok 133 (SS_kit_IsMoment (@kit_IsMoment _)) := okF_of std (.cons ok_kit_Outside .nil) ⟨rfl, rfl, by kernel_rfl, rfl, rfl, rfl⟩ (sm_kit_IsMoment I_kit_IsMoment) (cuts0 (fun _ => rfl) (by kernel_rfl)) Tryz.func133 (by kernel_rfl) (by kernel_rfl)
abbrev T_call_isLetter : Type 1 := Int → {R : Type} → (Bool → Option R) → Option R
def call_isLetter_ (g : Nat) (a1 : Int) {R : Type} (k0 : Bool → Option R) : Option R :=
 (bif (decide (a1 ≥ 97)) then k0 (decide (a1 ≤ 122)) else k0 false)
noncomputable def call_isLetter [Fuel] : T_call_isLetter := @call_isLetter_ NN
def SS_call_isLetter (g : T_call_isLetter) : Spec A := fun args => match args with | [.d (.int .u8 a1)] => fun k => g a1 (fun z0 => k (.d (.bool z0)) [.undef]) | _ => fun _ => none
noncomputable def code_303 : Code := (Tryz.f303.body).getD .skip
noncomputable def E_call_isLetter (g : Nat) : Env A := mkE [] [] [] [] [] [] [] [] [] []
theorem sm_call_isLetter (g : Nat) : Same (SS_call_isLetter (@call_isLetter_ g)) (abody (E_call_isLetter g) Tryz.f303 code_303 0 [] [.asis] g) := by intro args; unfold SS_call_isLetter; split; exact .inr fun R k => (by kernel_rfl); exact .inl fun R k => rfl
theorem ok_call_isLetter [Fuel] : Ok 303 (SS_call_isLetter (@call_isLetter _)) := okF_of std .nil ⟨rfl, rfl, by kernel_rfl, rfl, rfl, rfl⟩ (sm_call_isLetter NN) (cuts0 (fun _ => rfl) (by kernel_rfl)) Tryz.func303 (by kernel_rfl) (by kernel_rfl)
abbrev T_call_isDigit : Type 1 := Int → {R : Type} → (Bool → Option R) → Option R
def call_isDigit_ (g : Nat) (a1 : Int) {R : Type} (k0 : Bool → Option R) : Option R :=
 (bif (decide (a1 ≥ 48)) then k0 (decide (a1 ≤ 57)) else k0 false)
noncomputable def call_isDigit [Fuel] : T_call_isDigit := @call_isDigit_ NN
def SS_call_isDigit (g : T_call_isDigit) : Spec A := fun args => match args with | [.d (.int .u8 a1)] => fun k => g a1 (fun z0 => k (.d (.bool z0)) [.undef]) | _ => fun _ => none
noncomputable def code_270 : Code := (Tryz.f270.body).getD .skip
noncomputable def E_call_isDigit (g : Nat) : Env A := mkE [] [] [] [] [] [] [] [] [] []
theorem sm_call_isDigit (g : Nat) : Same (SS_call_isDigit (@call_isDigit_ g)) (abody (E_call_isDigit g) Tryz.f270 code_270 0 [] [.asis] g) := by intro args; unfold SS_call_isDigit; split; exact .inr fun R k => (by kernel_rfl); exact .inl fun R k => rfl
theorem ok_call_isDigit [Fuel] : Ok 270 (SS_call_isDigit (@call_isDigit _)) := okF_of std .nil ⟨rfl, rfl, by kernel_rfl, rfl, rfl, rfl⟩ (sm_call_isDigit NN) (cuts0 (fun _ => rfl) (by kernel_rfl)) Tryz.func270 (by kernel_rfl) (by kernel_rfl)
abbrev T_call_isPlain : Type 1 := List UInt8 → {R : Type} → (Int → Bool → Option R) → Option R
structure C_call_isPlain where
 N : Nat
 call_isDigit : T_call_isDigit
 call_isLetter : T_call_isLetter
def call_isPlain_L2 (g : C_call_isPlain) : Nat → List UInt8 → Int → Int → Int → {R : Type} → (Int → Bool → Option R) → (Int → Option R) → Option R
 | 0, _, _, _, _, _, _, _ => none
 | n + 1, v2, v3, v4, v5, _, e0, e1 => (bif (decide (v5 < v4)) then (get_ v2 v5 fun x10 => (g.call_isLetter (x10.toNat : Int) (fun r11 => (bif r11 then call_isPlain_L2 g n v2 (w64 (v3 + 1)) v4 (w64 (v5 + 1)) e0 e1 else (get_ v2 v5 fun x12 => (g.call_isDigit (x12.toNat : Int) (fun r13 => (bif (!r13) then e0 0 false else call_isPlain_L2 g n v2 v3 v4 (w64 (v5 + 1)) e0 e1)))))))) else e1 v3)
def call_isPlain_ (g : C_call_isPlain) (a1 : List UInt8) {R : Type} (k0 : Int → Bool → Option R) : Option R :=
 (call_isPlain_L2 g g.N a1 0 (a1.length : Int) 0 (fun e14 e15 => k0 e14 e15) (fun e16 => k0 e16 true))
noncomputable def I_call_isPlain [Fuel] : C_call_isPlain := ⟨NN, @call_isDigit _, @call_isLetter _⟩
noncomputable def call_isPlain [Fuel] : T_call_isPlain := @call_isPlain_ I_call_isPlain
def SS_call_isPlain (g : T_call_isPlain) : Spec A := fun args => match args with | [.d (.str a1)] => fun k => g a1 (fun z0 z1 => k (.tup [.d (.int .i64 z0), .d (.bool z1)]) [.undef]) | _ => fun _ => none
def sh_call_isPlain_L2 : SSt := mkSh 25 0 [(0, .str), (2, .int .i64), (6, .int .i64), (7, .int .i64)] []
def LP_call_isPlain_L2 (g : C_call_isPlain) (n : Nat) : LPT A := fun ps => match ps with | [.d (.str p1), .d (.int .i64 p2), .d (.int .i64 p3), .d (.int .i64 p4)] => fun K => call_isPlain_L2 g n p1 p2 p3 p4 (fun z0 z1 => K .ret (mkSt 25 0 [(2, .d (.int .i64 z0)), (3, .d (.bool z1))] [])) (fun z0 => K (.exit 0) (mkSt 25 0 [(2, .d (.int .i64 z0))] [])) | _ => fun _ => none
noncomputable def code_269 : Code := (Tryz.f269.body).getD .skip
noncomputable def E_call_isPlain (g : C_call_isPlain) : Env A := mkE [(270, SS_call_isDigit g.call_isDigit), (303, SS_call_isLetter g.call_isLetter)] [] [(2, ⟨[0, 2, 6, 7], [], [], [], [], [], []⟩)] [(2, ⟨[2, 3], [], [], [], [], [], []⟩)] [(2, pieceOf sh_call_isPlain_L2 (LP_call_isPlain_L2 g g.N))] [] [] [] [] []
theorem ct_call_isPlain [Fuel] : NatTab (E_call_isPlain I_call_isPlain).C := ct_of (P := Tryz.prog) (T := T) (.cons ok_call_isDigit (.cons ok_call_isLetter .nil)) (by kernel_rfl)
noncomputable def cb_call_isPlain_L2 : Code := sub [1, 0, 1, 0, 0] code_269
theorem s_call_isPlain_L2 (g : C_call_isPlain) (n : Nat) : StepOk (E_call_isPlain g) g.N cb_call_isPlain_L2 sh_call_isPlain_L2 (LP_call_isPlain_L2 g) n := by intro ps; unfold LP_call_isPlain_L2; split; exact .inr fun R K => (by kernel_rfl); exact .inl fun R K => rfl
theorem lf_call_isPlain_L2 [Fuel] : LoopFine (E_call_isPlain I_call_isPlain) NN cb_call_isPlain_L2 := fine_loop sh_call_isPlain_L2 (LP_call_isPlain_L2 I_call_isPlain) (by kernel_rfl) ct_call_isPlain (cuts0 (fun _ => rfl) (by kernel_rfl)) (fun ps R K => by unfold LP_call_isPlain_L2; split <;> (try unfold call_isPlain_L2) <;> rfl) (s_call_isPlain_L2 I_call_isPlain)
theorem sm_call_isPlain (g : C_call_isPlain) : Same (SS_call_isPlain (@call_isPlain_ g)) (abody (E_call_isPlain g) Tryz.f269 code_269 0 [] [.asis, .asis] g.N) := by intro args; unfold SS_call_isPlain; split; exact .inr fun R k => (by kernel_rfl); exact .inl fun R k => rfl
theorem ok_call_isPlain [Fuel] : Ok 269 (SS_call_isPlain (@call_isPlain _)) := okF_of std (.cons ok_call_isDigit (.cons ok_call_isLetter .nil)) ⟨rfl, rfl, by kernel_rfl, rfl, rfl, rfl⟩ (sm_call_isPlain I_call_isPlain) (cutsL (fun _ => rfl) (.cons lf_call_isPlain_L2 .nil) (by kernel_rfl)) Tryz.func269 (by kernel_rfl) (by kernel_rfl)
abbrev T_call_split : Type 1 := List UInt8 → {R : Type} → (Int → Bool → Option R) → Option R
structure C_call_split where
 N : Nat
 strings_LastIndexAny : T_strings_LastIndexAny
 call_isPlain : T_call_isPlain
def call_split_ (g : C_call_split) (a1 : List UInt8) {R : Type} (k0 : Int → Bool → Option R) : Option R :=
 (g.call_isPlain a1 (fun r2 r3 => (bif (!r3) then k0 0 false else (bif (decide ((a1.length : Int) > 10)) then k0 0 false else (g.strings_LastIndexAny a1 [48, 49, 50, 51, 52, 53, 54, 55, 56, 57] (fun r4 => (bif (decide (r4 < 1)) then k0 0 false else (bif (decide (r4 > 3)) then k0 0 false else (bif (decide ((w64 ((w64 ((a1.length : Int) - r4)) - 1)) < 1)) then k0 0 false else (bif (decide ((w64 ((w64 ((a1.length : Int) - r4)) - 1)) > 4)) then k0 0 false else (bif (decide (0 ≤ r4) && decide (r4 ≤ (a1.length : Int))) then (g.call_isPlain (a1.take (r4 : Int).toNat) (fun r5 r6 => k0 r4 (decide (r5 > 0)))) else none)))))))))))
noncomputable def I_call_split [Fuel] : C_call_split := ⟨NN, @strings_LastIndexAny _, @call_isPlain _⟩
noncomputable def call_split [Fuel] : T_call_split := @call_split_ I_call_split
def SS_call_split (g : T_call_split) : Spec A := fun args => match args with | [.d (.str a1)] => fun k => g a1 (fun z0 z1 => k (.tup [.d (.int .i64 z0), .d (.bool z1)]) [.undef]) | _ => fun _ => none
noncomputable def code_268 : Code := (Tryz.f268.body).getD .skip
noncomputable def E_call_split (g : C_call_split) : Env A := mkE [(235, SS_strings_LastIndexAny g.strings_LastIndexAny), (269, SS_call_isPlain g.call_isPlain)] [] [] [] [] [] [] [] [] []
theorem sm_call_split (g : C_call_split) : Same (SS_call_split (@call_split_ g)) (abody (E_call_split g) Tryz.f268 code_268 0 [] [.asis, .asis] g.N) := by intro args; unfold SS_call_split; split; exact .inr fun R k => (by kernel_rfl); exact .inl fun R k => rfl
theorem ok_call_split [Fuel] : Ok 268 (SS_call_split (@call_split _)) := okF_of std (.cons ok_strings_LastIndexAny (.cons ok_call_isPlain .nil)) ⟨rfl, rfl, by kernel_rfl, rfl, rfl, rfl⟩ (sm_call_split I_call_split) (cuts0 (fun _ => rfl) (by kernel_rfl)) Tryz.func268 (by kernel_rfl) (by kernel_rfl)
abbrev T_call_based : Type 1 := List UInt8 → {R : Type} → (G_Parts → Bool → Option R) → Option R
structure C_call_based where
 N : Nat
 call_split : T_call_split
def call_based_ (g : C_call_based) (a1 : List UInt8) {R : Type} (k0 : G_Parts → Bool → Option R) : Option R :=
 (g.call_split a1 (fun r2 r3 => (bif (!r3) then k0 (⟨[], [], [], 0, []⟩ : G_Parts) false else (bif (decide (0 ≤ (w64 (r2 + 1))) && decide ((w64 (r2 + 1)) ≤ (a1.length : Int))) then (bif (decide (0 ≤ (w64 (r2 + 1))) && decide ((w64 (r2 + 1)) ≤ (a1.length : Int))) then k0 (⟨a1, (a1.take ((w64 (r2 + 1)) : Int).toNat), (a1.drop ((w64 (r2 + 1)) : Int).toNat), 0, []⟩ : G_Parts) true else none) else none))))
noncomputable def I_call_based [Fuel] : C_call_based := ⟨NN, @call_split _⟩
noncomputable def call_based [Fuel] : T_call_based := @call_based_ I_call_based
def SS_call_based (g : T_call_based) : Spec A := fun args => match args with | [.d (.str a1)] => fun k => g a1 (fun z0 z1 => k (.tup [.agg [.d (.str z0.f_Base), .d (.str z0.f_Prefix), .d (.str z0.f_Suffix), .d (.int .i64 z0.f_Kind), .d (.str z0.f_Added)], .d (.bool z1)]) [.undef]) | _ => fun _ => none
noncomputable def code_220 : Code := (Tryz.f220.body).getD .skip
noncomputable def E_call_based (g : C_call_based) : Env A := mkE [(268, SS_call_split g.call_split)] [(2, [0])] [] [] [] [] [] [] [] []
theorem sm_call_based (g : C_call_based) : Same (SS_call_based (@call_based_ g)) (abody (E_call_based g) Tryz.f220 code_220 1 [] [.asis, .asis] g.N) := by intro args; unfold SS_call_based; split; exact .inr fun R k => (by kernel_rfl); exact .inl fun R k => rfl
theorem ok_call_based [Fuel] : Ok 220 (SS_call_based (@call_based _)) := okF_of std (.cons ok_call_split .nil) ⟨rfl, rfl, by kernel_rfl, rfl, rfl, rfl⟩ (sm_call_based I_call_based) (cuts0 (fun _ => rfl) (by kernel_rfl)) Tryz.func220 (by kernel_rfl) (by kernel_rfl)
abbrev T_call_isBegin : Type 1 := List UInt8 → {R : Type} → (Bool → Option R) → Option R
structure C_call_isBegin where
 N : Nat
 call_isPlain : T_call_isPlain
def call_isBegin_ (g : C_call_isBegin) (a1 : List UInt8) {R : Type} (k0 : Bool → Option R) : Option R :=
 (g.call_isPlain a1 (fun r2 r3 => (bif r3 then (bif (decide (r2 > 0)) then k0 (decide ((a1.length : Int) ≤ 4)) else k0 false) else k0 false)))
noncomputable def I_call_isBegin [Fuel] : C_call_isBegin := ⟨NN, @call_isPlain _⟩
noncomputable def call_isBegin [Fuel] : T_call_isBegin := @call_isBegin_ I_call_isBegin
def SS_call_isBegin (g : T_call_isBegin) : Spec A := fun args => match args with | [.d (.str a1)] => fun k => g a1 (fun z0 => k (.d (.bool z0)) [.undef]) | _ => fun _ => none
noncomputable def code_221 : Code := (Tryz.f221.body).getD .skip
noncomputable def E_call_isBegin (g : C_call_isBegin) : Env A := mkE [(269, SS_call_isPlain g.call_isPlain)] [] [] [] [] [] [] [] [] []
theorem sm_call_isBegin (g : C_call_isBegin) : Same (SS_call_isBegin (@call_isBegin_ g)) (abody (E_call_isBegin g) Tryz.f221 code_221 0 [] [.asis] g.N) := by intro args; unfold SS_call_isBegin; split; exact .inr fun R k => (by kernel_rfl); exact .inl fun R k => rfl
theorem ok_call_isBegin [Fuel] : Ok 221 (SS_call_isBegin (@call_isBegin _)) := okF_of std (.cons ok_call_isPlain .nil) ⟨rfl, rfl, by kernel_rfl, rfl, rfl, rfl⟩ (sm_call_isBegin I_call_isBegin) (cuts0 (fun _ => rfl) (by kernel_rfl)) Tryz.func221 (by kernel_rfl) (by kernel_rfl)
abbrev T_call_tail : Type 1 := List UInt8 → {R : Type} → (Int → List UInt8 → Bool → Option R) → Option R
structure C_call_tail where
 N : Nat
 call_isBegin : T_call_isBegin
 call_isDigit : T_call_isDigit
def call_tail_ (g : C_call_tail) (a1 : List UInt8) {R : Type} (k0 : Int → List UInt8 → Bool → Option R) : Option R :=
 (bif (a1 == [112]) then k0 3 [] true else (bif (a1 == [109]) then k0 4 [] true else (bif (a1 == [109, 109]) then k0 5 [] true else (bif (a1 == [97, 109]) then k0 6 [] true else (bif ((a1.length : Int) == 1) then (at_ a1 0 fun x2 => (g.call_isDigit (x2.toNat : Int) (fun r3 => (bif r3 then k0 2 a1 true else (g.call_isBegin a1 (fun r4 => k0 1 a1 r4)))))) else (g.call_isBegin a1 (fun r5 => k0 1 a1 r5)))))))
noncomputable def I_call_tail [Fuel] : C_call_tail := ⟨NN, @call_isBegin _, @call_isDigit _⟩
noncomputable def call_tail [Fuel] : T_call_tail := @call_tail_ I_call_tail
def SS_call_tail (g : T_call_tail) : Spec A := fun args => match args with | [.d (.str a1)] => fun k => g a1 (fun z0 z1 z2 => k (.tup [.d (.int .i64 z0), .d (.str z1), .d (.bool z2)]) [.undef]) | _ => fun _ => none
noncomputable def code_222 : Code := (Tryz.f222.body).getD .skip
noncomputable def E_call_tail (g : C_call_tail) : Env A := mkE [(221, SS_call_isBegin g.call_isBegin), (270, SS_call_isDigit g.call_isDigit)] [] [] [] [] [] [] [] [] []
theorem sm_call_tail (g : C_call_tail) : Same (SS_call_tail (@call_tail_ g)) (abody (E_call_tail g) Tryz.f222 code_222 0 [] [.asis, .asis, .asis] g.N) := by intro args; unfold SS_call_tail; split; exact .inr fun R k => (by kernel_rfl); exact .inl fun R k => rfl
theorem ok_call_tail [Fuel] : Ok 222 (SS_call_tail (@call_tail _)) := okF_of std (.cons ok_call_isBegin (.cons ok_call_isDigit .nil)) ⟨rfl, rfl, by kernel_rfl, rfl, rfl, rfl⟩ (sm_call_tail I_call_tail) (cuts0 (fun _ => rfl) (by kernel_rfl)) Tryz.func222 (by kernel_rfl) (by kernel_rfl)
abbrev T_call_Parts : Type 1 := List UInt8 → {R : Type} → (G_Parts → Bool → Option R) → Option R
structure C_call_Parts where
 N : Nat
 strings_Cut : T_strings_Cut
 call_based : T_call_based
 call_isBegin : T_call_isBegin
 call_tail : T_call_tail
def call_Parts_ (g : C_call_Parts) (a1 : List UInt8) {R : Type} (k0 : G_Parts → Bool → Option R) : Option R :=
 (bif (decide ((a1.length : Int) > 14)) then k0 (⟨[], [], [], 0, []⟩ : G_Parts) false else (g.call_based a1 (fun r2 r3 => (bif r3 then k0 r2 true else (g.strings_Cut a1 [47] (fun r4 r5 r6 => (bif (!r6) then k0 (⟨[], [], [], 0, []⟩ : G_Parts) false else (g.call_based r5 (fun r7 r8 => (bif r8 then (g.call_isBegin r4 (fun r9 => (bif r9 then k0 (⟨r7.f_Base, r7.f_Prefix, r7.f_Suffix, 1, r4⟩ : G_Parts) true else (g.call_based r4 (fun r10 r11 => (g.call_tail r5 (fun r12 r13 r14 => (bif (!r11) then k0 (⟨[], [], [], 0, []⟩ : G_Parts) false else (bif (!r14) then k0 (⟨[], [], [], 0, []⟩ : G_Parts) false else k0 (⟨r10.f_Base, r10.f_Prefix, r10.f_Suffix, r12, r13⟩ : G_Parts) true))))))))) else (g.call_based r4 (fun r15 r16 => (g.call_tail r5 (fun r17 r18 r19 => (bif (!r16) then k0 (⟨[], [], [], 0, []⟩ : G_Parts) false else (bif (!r19) then k0 (⟨[], [], [], 0, []⟩ : G_Parts) false else k0 (⟨r15.f_Base, r15.f_Prefix, r15.f_Suffix, r17, r18⟩ : G_Parts) true))))))))))))))))
noncomputable def I_call_Parts [Fuel] : C_call_Parts := ⟨NN, @strings_Cut _, @call_based _, @call_isBegin _, @call_tail _⟩
noncomputable def call_Parts [Fuel] : T_call_Parts := @call_Parts_ I_call_Parts
def SS_call_Parts (g : T_call_Parts) : Spec A := fun args => match args with | [.d (.str a1)] => fun k => g a1 (fun z0 z1 => k (.tup [.agg [.d (.str z0.f_Base), .d (.str z0.f_Prefix), .d (.str z0.f_Suffix), .d (.int .i64 z0.f_Kind), .d (.str z0.f_Added)], .d (.bool z1)]) [.undef]) | _ => fun _ => none
noncomputable def code_177 : Code := (Tryz.f177.body).getD .skip
noncomputable def E_call_Parts (g : C_call_Parts) : Env A := mkE [(128, SS_strings_Cut g.strings_Cut), (220, SS_call_based g.call_based), (221, SS_call_isBegin g.call_isBegin), (222, SS_call_tail g.call_tail)] [(2, [0]), (4, [1]), (9, [2]), (11, [3])] [] [] [] [] [] [] [] []
theorem sm_call_Parts (g : C_call_Parts) : Same (SS_call_Parts (@call_Parts_ g)) (abody (E_call_Parts g) Tryz.f177 code_177 4 [] [.asis, .asis] g.N) := by intro args; unfold SS_call_Parts; split; exact .inr fun R k => (by kernel_rfl); exact .inl fun R k => rfl
theorem ok_call_Parts [Fuel] : Ok 177 (SS_call_Parts (@call_Parts _)) := okF_of std (.cons ok_strings_Cut (.cons ok_call_based (.cons ok_call_isBegin (.cons ok_call_tail .nil)))) ⟨rfl, rfl, by kernel_rfl, rfl, rfl, rfl⟩ (sm_call_Parts I_call_Parts) (cuts0 (fun _ => rfl) (by kernel_rfl)) Tryz.func177 (by kernel_rfl) (by kernel_rfl)
abbrev T_call_Is : Type 1 := List UInt8 → {R : Type} → (Bool → Option R) → Option R
structure C_call_Is where
 N : Nat
 call_Parts : T_call_Parts
def call_Is_ (g : C_call_Is) (a1 : List UInt8) {R : Type} (k0 : Bool → Option R) : Option R :=
 (g.call_Parts a1 (fun r2 r3 => k0 r3))
noncomputable def I_call_Is [Fuel] : C_call_Is := ⟨NN, @call_Parts _⟩
noncomputable def call_Is [Fuel] : T_call_Is := @call_Is_ I_call_Is
def SS_call_Is (g : T_call_Is) : Spec A := fun args => match args with | [.d (.str a1)] => fun k => g a1 (fun z0 => k (.d (.bool z0)) [.undef]) | _ => fun _ => none
noncomputable def code_136 : Code := (Tryz.f136.body).getD .skip
noncomputable def E_call_Is (g : C_call_Is) : Env A := mkE [(177, SS_call_Parts g.call_Parts)] [(3, [0])] [] [] [] [] [] [] [] []
theorem sm_call_Is (g : C_call_Is) : Same (SS_call_Is (@call_Is_ g)) (abody (E_call_Is g) Tryz.f136 code_136 1 [] [.asis] g.N) := by intro args; unfold SS_call_Is; split; exact .inr fun R k => (by kernel_rfl); exact .inl fun R k => rfl
theorem ok_call_Is [Fuel] : Ok 136 (SS_call_Is (@call_Is _)) := okF_of std (.cons ok_call_Parts .nil) ⟨rfl, rfl, by kernel_rfl, rfl, rfl, rfl⟩ (sm_call_Is I_call_Is) (cuts0 (fun _ => rfl) (by kernel_rfl)) Tryz.func136 (by kernel_rfl) (by kernel_rfl)
abbrev T_strings_Compare : Type 1 := List UInt8 → List UInt8 → {R : Type} → (Int → Option R) → Option R
def strings_Compare [Fuel] : T_strings_Compare := @X_cmp
def SS_strings_Compare (g : T_strings_Compare) : Spec A := SSX_cmp g
theorem ok_strings_Compare [Fuel] : Ok 118 (SS_strings_Compare (@strings_Compare _)) := ⟨ssx_cmp_sound (cmp_sound (Any.strings_Compare Tryz.lays106)), ssx_cmp_nat, enters_of (fn := Tryz.f118) Tryz.func118 (by kernel_rfl) (by kernel_rfl)⟩
abbrev T_cmp_Or__int : Type 1 := List Int → {R : Type} → (Int → Option R) → Option R
def cmp_Or__int_L3 (g : Nat) : Nat → Int → List Int → Int → Int → {R : Type} → (Int → Int → Option R) → (Int → Option R) → Option R
 | 0, _, _, _, _, _, _, _ => none
 | n + 1, v2, v3, v4, v5, _, e0, e1 => (bif (decide (v5 < v4)) then (get_ v3 v5 fun x7 => (bif (x7 != v2) then e0 x7 v2 else cmp_Or__int_L3 g n v2 v3 v4 (w64 (v5 + 1)) e0 e1)) else e1 v2)
def cmp_Or__int_ (g : Nat) (a1 : List Int) {R : Type} (k0 : Int → Option R) : Option R :=
 (cmp_Or__int_L3 g g 0 a1 (a1.length : Int) 0 (fun e8 e9 => k0 e8) (fun e10 => k0 e10))
noncomputable def cmp_Or__int [Fuel] : T_cmp_Or__int := @cmp_Or__int_ NN
def SS_cmp_Or__int (g : T_cmp_Or__int) : Spec A := fun args => match args with | [.d (.sl 3 a1)] => fun k => g a1 (fun z0 => k (.d (.int .i64 z0)) [.undef]) | _ => fun _ => none
def sh_cmp_Or__int_L3 : SSt := mkSh 18 0 [(3, .int .i64), (6, .sl 3), (7, .int .i64), (8, .int .i64)] []
def LP_cmp_Or__int_L3 (g : Nat) (n : Nat) : LPT A := fun ps => match ps with | [.d (.int .i64 p1), .d (.sl 3 p2), .d (.int .i64 p3), .d (.int .i64 p4)] => fun K => cmp_Or__int_L3 g n p1 p2 p3 p4 (fun z0 z1 => K .ret (mkSt 18 0 [(2, .d (.int .i64 z0)), (3, .d (.int .i64 z1))] [])) (fun z0 => K (.exit 0) (mkSt 18 0 [(3, .d (.int .i64 z0))] [])) | _ => fun _ => none
noncomputable def code_168 : Code := (Tryz.f168.body).getD .skip
noncomputable def E_cmp_Or__int (g : Nat) : Env A := mkE [] [] [(3, ⟨[3, 6, 7, 8], [], [], [], [], [], []⟩)] [(3, ⟨[2, 3], [], [], [], [], [], []⟩)] [(3, pieceOf sh_cmp_Or__int_L3 (LP_cmp_Or__int_L3 g g))] [] [] [] [] []
theorem ct_cmp_Or__int [Fuel] : NatTab (E_cmp_Or__int NN).C := ct_of (P := Tryz.prog) (T := T) .nil (by kernel_rfl)
noncomputable def cb_cmp_Or__int_L3 : Code := sub [1, 1, 0, 1, 0, 0] code_168
theorem s_cmp_Or__int_L3 (g : Nat) (n : Nat) : StepOk (E_cmp_Or__int g) g cb_cmp_Or__int_L3 sh_cmp_Or__int_L3 (LP_cmp_Or__int_L3 g) n := by intro ps; unfold LP_cmp_Or__int_L3; split; exact .inr fun R K => (by kernel_rfl); exact .inl fun R K => rfl
theorem lf_cmp_Or__int_L3 [Fuel] : LoopFine (E_cmp_Or__int NN) NN cb_cmp_Or__int_L3 := fine_loop sh_cmp_Or__int_L3 (LP_cmp_Or__int_L3 NN) (by kernel_rfl) ct_cmp_Or__int (cuts0 (fun _ => rfl) (by kernel_rfl)) (fun ps R K => by unfold LP_cmp_Or__int_L3; split <;> (try unfold cmp_Or__int_L3) <;> rfl) (s_cmp_Or__int_L3 NN)
theorem sm_cmp_Or__int (g : Nat) : Same (SS_cmp_Or__int (@cmp_Or__int_ g)) (abody (E_cmp_Or__int g) Tryz.f168 code_168 0 [] [.asis] g) := by intro args; unfold SS_cmp_Or__int; split; exact .inr fun R k => (by kernel_rfl); exact .inl fun R k => rfl
theorem ok_cmp_Or__int [Fuel] : Ok 168 (SS_cmp_Or__int (@cmp_Or__int _)) := okF_of std .nil ⟨rfl, rfl, by kernel_rfl, rfl, rfl, rfl⟩ (sm_cmp_Or__int NN) (cutsL (fun _ => rfl) (.cons lf_cmp_Or__int_L3 .nil) (by kernel_rfl)) Tryz.func168 (by kernel_rfl) (by kernel_rfl)
abbrev T_band_compareSpots : Type 1 := G_Spot → G_Spot → {R : Type} → (Int → Option R) → Option R
structure C_band_compareSpots where
 N : Nat
 strings_Compare : T_strings_Compare
 cmp_Or__int : T_cmp_Or__int
 cmp_Compare__int : T_cmp_Compare__int
def band_compareSpots_ (g : C_band_compareSpots) (a1 a2 : G_Spot) {R : Type} (k0 : Int → Option R) : Option R :=
 (g.cmp_Compare__int a1.f_At a2.f_At (fun r3 => (g.cmp_Compare__int a1.f_Hertz a2.f_Hertz (fun r4 => (g.strings_Compare a1.f_Call a2.f_Call (fun r5 => (g.strings_Compare a1.f_By a2.f_By (fun r6 => (g.cmp_Or__int [r3, r4, r5, r6] (fun r7 => k0 r7))))))))))
noncomputable def I_band_compareSpots [Fuel] : C_band_compareSpots := ⟨NN, @strings_Compare _, @cmp_Or__int _, @cmp_Compare__int _⟩
noncomputable def band_compareSpots [Fuel] : T_band_compareSpots := @band_compareSpots_ I_band_compareSpots
def SS_band_compareSpots (g : T_band_compareSpots) : Spec A := fun args => match args with | [.agg [.d (.int .i64 a1), .d (.int .i64 a2), .d (.str a3), .d (.str a4)], .agg [.d (.int .i64 a5), .d (.int .i64 a6), .d (.str a7), .d (.str a8)]] => fun k => g ⟨a1, a2, a3, a4⟩ ⟨a5, a6, a7, a8⟩ (fun z0 => k (.d (.int .i64 z0)) [.undef, .undef]) | _ => fun _ => none
noncomputable def code_150 : Code := (Tryz.f150.body).getD .skip
noncomputable def E_band_compareSpots (g : C_band_compareSpots) : Env A := mkE [(118, SS_strings_Compare g.strings_Compare), (168, SS_cmp_Or__int g.cmp_Or__int), (169, SS_cmp_Compare__int g.cmp_Compare__int)] [(2, [0]), (3, [1]), (25, [2])] [] [] [] [] [] [] [] []
theorem sm_band_compareSpots (g : C_band_compareSpots) : Same (SS_band_compareSpots (@band_compareSpots_ g)) (abody (E_band_compareSpots g) Tryz.f150 code_150 3 [] [.asis] g.N) := by intro args; unfold SS_band_compareSpots; split; exact .inr fun R k => (by kernel_rfl); exact .inl fun R k => rfl
theorem ok_band_compareSpots [Fuel] : Ok 150 (SS_band_compareSpots (@band_compareSpots _)) := okF_of std (.cons ok_strings_Compare (.cons ok_cmp_Or__int (.cons ok_cmp_Compare__int .nil))) ⟨rfl, rfl, by kernel_rfl, rfl, rfl, rfl⟩ (sm_band_compareSpots I_band_compareSpots) (cuts0 (fun _ => rfl) (by kernel_rfl)) Tryz.func150 (by kernel_rfl) (by kernel_rfl)
end Go.Am
