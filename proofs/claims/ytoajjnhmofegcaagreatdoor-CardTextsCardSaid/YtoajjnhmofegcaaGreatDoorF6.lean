/- The functions of the program as Lean functions, each shown to be what the code computes, part 6. No condition: lemmas for the claim. -/
import Derived.Test.YtoajjnhmofegcaaGreatDoorF0
import Derived.Test.YtoajjnhmofegcaaGreatDoorFSh
import Derived.Test.YtoajjnhmofegcaaGreatDoorF1
import Derived.Test.YtoajjnhmofegcaaGreatDoorF2
import Derived.Test.YtoajjnhmofegcaaGreatDoorF3
import Derived.Test.YtoajjnhmofegcaaGreatDoorF4
import Derived.Test.YtoajjnhmofegcaaGreatDoorF5
set_option linter.unusedVariables false
set_option maxRecDepth 100000
namespace Go.Am
open Go Go.Proofs
abbrev T_club_Read : Type 1 := List UInt8 → {R : Type} → (List G_Card → Int → Int → Option R) → Option R
structure C_club_Read where
 N : Nat
 kit_Lines : T_kit_Lines
 club_CheckCards : T_club_CheckCards
 club_readLine : T_club_readLine
def club_Read_L6 (g : C_club_Read) : Nat → Bool → Int → Int → List (List UInt8) → List G_Card → {R : Type} → (Int → Int → List G_Card → Option R) → (List G_Card → Option R) → Option R
 | 0, _, _, _, _, _, _, _, _ => none
 | n + 1, v4, v5, v6, v7, v8, _, e0, e1 => (bif (decide (v6 < v5)) then (inr v7 v6 (at_ v7 v6 fun x12 => (g.club_readLine x12 (fun r13 r14 => (bif (!r14) then e0 v6 9 v8 else (bif (!v4) then (bif (v6 == (w64 ((v7.length : Int) - 1))) then e0 v6 9 v8 else (bif (decide ((v8.length + [r13].length) * 56 ≤ roomBytes')) then club_Read_L6 g n v4 v5 (w64 (v6 + 1)) v7 (v8 ++ [r13]) e0 e1 else none)) else (bif (decide ((v8.length + [r13].length) * 56 ≤ roomBytes')) then club_Read_L6 g n v4 v5 (w64 (v6 + 1)) v7 (v8 ++ [r13]) e0 e1 else none))))))) else e1 v8)
def club_Read_ (g : C_club_Read) (a1 : List UInt8) {R : Type} (k0 : List G_Card → Int → Int → Option R) : Option R :=
 (bif (decide ((a1.length : Int) > 200000)) then k0 [] 0 2 else (g.kit_Lines a1 (fun r2 r3 => (club_Read_L6 g g.N r3 (r2.length : Int) 0 r2 [] (fun e15 e16 e17 => k0 [] e15 e16) (fun e18 => (g.club_CheckCards e18 (fun r19 => (bif (r19 != 0) then k0 [] 0 r19 else k0 e18 0 0))))))))
noncomputable def I_club_Read [Fuel] : C_club_Read := ⟨NN, @kit_Lines _, @club_CheckCards _, @club_readLine _⟩
noncomputable def club_Read [Fuel] : T_club_Read := @club_Read_ I_club_Read
def SS_club_Read (g : T_club_Read) : Spec A := fun args => match args with | [.d (.str a1)] => fun k => g a1 (fun z0 z1 z2 => k (.tup [.arr 51 z0, .d (.int .i64 z1), .d (.int .i64 z2)]) [.undef]) | _ => fun _ => none
def sh_club_Read_L6 : SSt := mkSh 58 5 [(5, .own 9 0), (6, .bool), (7, .own 51 1), (21, .own 9 0), (22, .int .i64), (23, .int .i64)] [(0, .row 9), (1, .row 51)]
def LP_club_Read_L6 (g : C_club_Read) (n : Nat) : LPT A := fun ps => match ps with | [.d (.bool p1), .d (.int .i64 p2), .d (.int .i64 p3), .d (.sl 9 p4), .d (.sl 51 p5)] => fun K => club_Read_L6 g n p1 p2 p3 p4 p5 (fun z0 z1 z2 => K .ret (mkSt 58 5 [(2, .d .nsl), (3, .d (.int .i64 z0)), (4, .d (.int .i64 z1)), (7, .own 51 1)] [(1, some (.row 51 z2))])) (fun z0 => K (.exit 0) (mkSt 58 5 [(7, .own 51 1)] [(1, some (.row 51 z0))])) | _ => fun _ => none
noncomputable def code_22 : Code := (Tryz.f22.body).getD .skip
noncomputable def E_club_Read (g : C_club_Read) : Env A := mkE [(60, SS_kit_Lines g.kit_Lines), (77, SS_club_CheckCards g.club_CheckCards), (89, SS_club_readLine g.club_readLine)] [(10, [2]), (18, [0]), (49, [3]), (50, [4])] [(6, ⟨[5, 6, 7, 21, 22, 23], [(7, 51, 1)], [0], [], [], [], []⟩)] [(6, ⟨[2, 3, 4, 7], [], [1], [], [], [], []⟩)] [(6, pieceOf sh_club_Read_L6 (LP_club_Read_L6 g g.N))] [] [] [] [] []
theorem ct_club_Read [Fuel] : NatTab (E_club_Read I_club_Read).C := ct_of (P := Tryz.prog) (T := T) (.cons ok_kit_Lines (.cons ok_club_CheckCards (.cons ok_club_readLine .nil))) (by kernel_rfl)
noncomputable def cb_club_Read_L6 : Code := sub [1, 1, 1, 1, 0, 1, 0, 0] code_22
theorem s_club_Read_L6 (g : C_club_Read) (n : Nat) : StepOk (E_club_Read g) g.N cb_club_Read_L6 sh_club_Read_L6 (LP_club_Read_L6 g) n := by intro ps; unfold LP_club_Read_L6; split; exact .inr fun R K => (by kernel_rfl); exact .inl fun R K => rfl
theorem lf_club_Read_L6 [Fuel] : LoopFine (E_club_Read I_club_Read) NN cb_club_Read_L6 := fine_loop sh_club_Read_L6 (LP_club_Read_L6 I_club_Read) (by kernel_rfl) ct_club_Read (cuts0 (fun _ => rfl) (by kernel_rfl)) (fun ps R K => by unfold LP_club_Read_L6; split <;> (try unfold club_Read_L6) <;> rfl) (s_club_Read_L6 I_club_Read)
theorem sm_club_Read (g : C_club_Read) : Same (SS_club_Read (@club_Read_ g)) (abody (E_club_Read g) Tryz.f22 code_22 5 [] [.arr 51, .asis, .asis] g.N) := by intro args; unfold SS_club_Read; split; exact .inr fun R k => (by kernel_rfl); exact .inl fun R k => rfl
theorem ok_club_Read [Fuel] : Ok 22 (SS_club_Read (@club_Read _)) := okF_of std (.cons ok_kit_Lines (.cons ok_club_CheckCards (.cons ok_club_readLine .nil))) ⟨rfl, rfl, by kernel_rfl, rfl, rfl, rfl⟩ (sm_club_Read I_club_Read) (cutsL (fun _ => rfl) (.cons lf_club_Read_L6 .nil) (by kernel_rfl)) Tryz.func22 (by kernel_rfl) (by kernel_rfl)
abbrev T_slices_Contains__string : Type 1 := List (List UInt8) → List UInt8 → {R : Type} → (Bool → Option R) → Option R
structure C_slices_Contains__string where
 N : Nat
 slices_Index__string : T_slices_Index__string
def slices_Contains__string_ (g : C_slices_Contains__string) (a1 : List (List UInt8)) (a2 : List UInt8) {R : Type} (k0 : Bool → Option R) : Option R :=
 (g.slices_Index__string a1 a2 (fun r3 => k0 (decide (r3 ≥ 0))))
noncomputable def I_slices_Contains__string [Fuel] : C_slices_Contains__string := ⟨NN, @slices_Index__string _⟩
noncomputable def slices_Contains__string [Fuel] : T_slices_Contains__string := @slices_Contains__string_ I_slices_Contains__string
def SS_slices_Contains__string (g : T_slices_Contains__string) : Spec A := fun args => match args with | [.d (.sl 9 a1), .d (.str a2)] => fun k => g a1 a2 (fun z0 => k (.d (.bool z0)) [.undef, .undef]) | _ => fun _ => none
noncomputable def code_129 : Code := (Tryz.f129.body).getD .skip
noncomputable def E_slices_Contains__string (g : C_slices_Contains__string) : Env A := mkE [(92, SS_slices_Index__string g.slices_Index__string)] [] [] [] [] [] [] [] [] []
theorem sm_slices_Contains__string (g : C_slices_Contains__string) : Same (SS_slices_Contains__string (@slices_Contains__string_ g)) (abody (E_slices_Contains__string g) Tryz.f129 code_129 0 [] [.asis] g.N) := by intro args; unfold SS_slices_Contains__string; split; exact .inr fun R k => (by kernel_rfl); exact .inl fun R k => rfl
theorem ok_slices_Contains__string [Fuel] : Ok 129 (SS_slices_Contains__string (@slices_Contains__string _)) := okF_of std (.cons ok_slices_Index__string .nil) ⟨rfl, rfl, by kernel_rfl, rfl, rfl, rfl⟩ (sm_slices_Contains__string I_slices_Contains__string) (cuts0 (fun _ => rfl) (by kernel_rfl)) Tryz.func129 (by kernel_rfl) (by kernel_rfl)
abbrev T_Q_Words : Type 1 := List UInt8 → {R : Type} → (List (List UInt8) → Bool → Option R) → Option R
structure C_Q_Words where
 N : Nat
 strings_Split : T_strings_Split
 slices_Contains__string : T_slices_Contains__string
def Q_Words_ (g : C_Q_Words) (a1 : List UInt8) {R : Type} (k0 : List (List UInt8) → Bool → Option R) : Option R :=
 (g.strings_Split a1 [32] (fun r2 => (g.slices_Contains__string r2 [] (fun r3 => k0 r2 (!r3)))))
noncomputable def I_Q_Words [Fuel] : C_Q_Words := ⟨NN, @strings_Split _, @slices_Contains__string _⟩
noncomputable def Q_Words [Fuel] : T_Q_Words := @Q_Words_ I_Q_Words
def SS_Q_Words (g : T_Q_Words) : Spec A := fun args => match args with | [.d (.str a1)] => fun k => g a1 (fun z0 z1 => k (.tup [.arr 9 z0, .d (.bool z1)]) [.undef]) | _ => fun _ => none
noncomputable def code_65 : Code := (Tryz.f65.body).getD .skip
noncomputable def E_Q_Words (g : C_Q_Words) : Env A := mkE [(126, SS_strings_Split g.strings_Split), (129, SS_slices_Contains__string g.slices_Contains__string)] [(6, [0])] [] [] [] [] [] [] [] []
theorem sm_Q_Words (g : C_Q_Words) : Same (SS_Q_Words (@Q_Words_ g)) (abody (E_Q_Words g) Tryz.f65 code_65 1 [] [.arr 9, .asis] g.N) := by intro args; unfold SS_Q_Words; split; exact .inr fun R k => (by kernel_rfl); exact .inl fun R k => rfl
theorem ok_Q_Words [Fuel] : Ok 65 (SS_Q_Words (@Q_Words _)) := okF_of std (.cons ok_strings_Split (.cons ok_slices_Contains__string .nil)) ⟨rfl, rfl, by kernel_rfl, rfl, rfl, rfl⟩ (sm_Q_Words I_Q_Words) (cuts0 (fun _ => rfl) (by kernel_rfl)) Tryz.func65 (by kernel_rfl) (by kernel_rfl)
abbrev T_stringslite_TrimPrefix : Type 1 := List UInt8 → List UInt8 → {R : Type} → (List UInt8 → Option R) → Option R
structure C_stringslite_TrimPrefix where
 N : Nat
 stringslite_HasPrefix : T_stringslite_HasPrefix
def stringslite_TrimPrefix_ (g : C_stringslite_TrimPrefix) (a1 a2 : List UInt8) {R : Type} (k0 : List UInt8 → Option R) : Option R :=
 (g.stringslite_HasPrefix a1 a2 (fun r3 => (bif r3 then (bif (decide (0 ≤ (a2.length : Int)) && decide ((a2.length : Int) ≤ (a1.length : Int))) then k0 (a1.drop ((a2.length : Int) : Int).toNat) else none) else k0 a1)))
noncomputable def I_stringslite_TrimPrefix [Fuel] : C_stringslite_TrimPrefix := ⟨NN, @stringslite_HasPrefix _⟩
noncomputable def stringslite_TrimPrefix [Fuel] : T_stringslite_TrimPrefix := @stringslite_TrimPrefix_ I_stringslite_TrimPrefix
def SS_stringslite_TrimPrefix (g : T_stringslite_TrimPrefix) : Spec A := fun args => match args with | [.d (.str a1), .d (.str a2)] => fun k => g a1 a2 (fun z0 => k (.d (.str z0)) [.undef, .undef]) | _ => fun _ => none
noncomputable def code_186 : Code := (Tryz.f186.body).getD .skip
noncomputable def E_stringslite_TrimPrefix (g : C_stringslite_TrimPrefix) : Env A := mkE [(240, SS_stringslite_HasPrefix g.stringslite_HasPrefix)] [] [] [] [] [] [] [] [] []
theorem sm_stringslite_TrimPrefix (g : C_stringslite_TrimPrefix) : Same (SS_stringslite_TrimPrefix (@stringslite_TrimPrefix_ g)) (abody (E_stringslite_TrimPrefix g) Tryz.f186 code_186 0 [] [.asis] g.N) := by intro args; unfold SS_stringslite_TrimPrefix; split; exact .inr fun R k => (by kernel_rfl); exact .inl fun R k => rfl
theorem ok_stringslite_TrimPrefix [Fuel] : Ok 186 (SS_stringslite_TrimPrefix (@stringslite_TrimPrefix _)) := okF_of std (.cons ok_stringslite_HasPrefix .nil) ⟨rfl, rfl, by kernel_rfl, rfl, rfl, rfl⟩ (sm_stringslite_TrimPrefix I_stringslite_TrimPrefix) (cuts0 (fun _ => rfl) (by kernel_rfl)) Tryz.func186 (by kernel_rfl) (by kernel_rfl)
abbrev T_strings_TrimPrefix : Type 1 := List UInt8 → List UInt8 → {R : Type} → (List UInt8 → Option R) → Option R
structure C_strings_TrimPrefix where
 N : Nat
 stringslite_TrimPrefix : T_stringslite_TrimPrefix
def strings_TrimPrefix_ (g : C_strings_TrimPrefix) (a1 a2 : List UInt8) {R : Type} (k0 : List UInt8 → Option R) : Option R :=
 (g.stringslite_TrimPrefix a1 a2 (fun r3 => k0 r3))
noncomputable def I_strings_TrimPrefix [Fuel] : C_strings_TrimPrefix := ⟨NN, @stringslite_TrimPrefix _⟩
noncomputable def strings_TrimPrefix [Fuel] : T_strings_TrimPrefix := @strings_TrimPrefix_ I_strings_TrimPrefix
def SS_strings_TrimPrefix (g : T_strings_TrimPrefix) : Spec A := fun args => match args with | [.d (.str a1), .d (.str a2)] => fun k => g a1 a2 (fun z0 => k (.d (.str z0)) [.undef, .undef]) | _ => fun _ => none
noncomputable def code_143 : Code := (Tryz.f143.body).getD .skip
noncomputable def E_strings_TrimPrefix (g : C_strings_TrimPrefix) : Env A := mkE [(186, SS_stringslite_TrimPrefix g.stringslite_TrimPrefix)] [] [] [] [] [] [] [] [] []
theorem sm_strings_TrimPrefix (g : C_strings_TrimPrefix) : Same (SS_strings_TrimPrefix (@strings_TrimPrefix_ g)) (abody (E_strings_TrimPrefix g) Tryz.f143 code_143 0 [] [.asis] g.N) := by intro args; unfold SS_strings_TrimPrefix; split; exact .inr fun R k => (by kernel_rfl); exact .inl fun R k => rfl
theorem ok_strings_TrimPrefix [Fuel] : Ok 143 (SS_strings_TrimPrefix (@strings_TrimPrefix _)) := okF_of std (.cons ok_stringslite_TrimPrefix .nil) ⟨rfl, rfl, by kernel_rfl, rfl, rfl, rfl⟩ (sm_strings_TrimPrefix I_strings_TrimPrefix) (cuts0 (fun _ => rfl) (by kernel_rfl)) Tryz.func143 (by kernel_rfl) (by kernel_rfl)
abbrev T_Q_Number : Type 1 := List UInt8 → Int → {R : Type} → (Int → Bool → Option R) → Option R
structure C_Q_Number where
 N : Nat
 strconv_Itoa : T_strconv_Itoa
 Q_only : T_Q_only
 strings_TrimPrefix : T_strings_TrimPrefix
 strconv_Atoi : T_strconv_Atoi
def Q_Number_ (g : C_Q_Number) (a1 : List UInt8) (a2 : Int) {R : Type} (k0 : Int → Bool → Option R) : Option R :=
 (g.strings_TrimPrefix a1 [45] (fun r3 => (bif (r3 == []) then k0 0 false else (bif (decide ((r3.length : Int) > a2)) then k0 0 false else (g.Q_only r3 [48, 49, 50, 51, 52, 53, 54, 55, 56, 57] (fun r4 => (bif (!r4) then k0 0 false else (g.strconv_Atoi a1 (fun r5 => (g.strconv_Itoa r5 (fun r6 => k0 r5 (r6 == a1))))))))))))
noncomputable def I_Q_Number [Fuel] : C_Q_Number := ⟨NN, @strconv_Itoa _, @Q_only _, @strings_TrimPrefix _, @strconv_Atoi _⟩
noncomputable def Q_Number [Fuel] : T_Q_Number := @Q_Number_ I_Q_Number
def SS_Q_Number (g : T_Q_Number) : Spec A := fun args => match args with | [.d (.str a1), .d (.int .i64 a2)] => fun k => g a1 a2 (fun z0 z1 => k (.tup [.d (.int .i64 z0), .d (.bool z1)]) [.undef, .undef]) | _ => fun _ => none
noncomputable def code_91 : Code := (Tryz.f91.body).getD .skip
noncomputable def E_Q_Number (g : C_Q_Number) : Env A := mkE [(79, SS_strconv_Itoa g.strconv_Itoa), (141, SS_Q_only g.Q_only), (143, SS_strings_TrimPrefix g.strings_TrimPrefix), (144, SS_strconv_Atoi g.strconv_Atoi)] [] [] [] [] [] [] [] [] []
theorem sm_Q_Number (g : C_Q_Number) : Same (SS_Q_Number (@Q_Number_ g)) (abody (E_Q_Number g) Tryz.f91 code_91 0 [] [.asis, .asis] g.N) := by intro args; unfold SS_Q_Number; split; exact .inr fun R k => (by kernel_rfl); exact .inl fun R k => rfl
theorem ok_Q_Number [Fuel] : Ok 91 (SS_Q_Number (@Q_Number _)) := okF_of std (.cons ok_strconv_Itoa (.cons ok_Q_only (.cons ok_strings_TrimPrefix (.cons ok_strconv_Atoi .nil)))) ⟨rfl, rfl, by kernel_rfl, rfl, rfl, rfl⟩ (sm_Q_Number I_Q_Number) (cuts0 (fun _ => rfl) (by kernel_rfl)) Tryz.func91 (by kernel_rfl) (by kernel_rfl)
abbrev T_Q_CardsRead_1_ba1 : Type 1 := List UInt8 → List G_Card → {R : Type} → (Bool → List G_Card → Option R) → Option R
structure C_Q_CardsRead_1_ba1 where
 N : Nat
 Q_Words : T_Q_Words
 Q_cardWords : T_Q_cardWords
 Q_plainModes : T_Q_plainModes
 Q_Number : T_Q_Number
 slices_Index__string : T_slices_Index__string
def Q_CardsRead_1_ba1_ (g : C_Q_CardsRead_1_ba1) (a1 : List UInt8) (a2 : List G_Card) {R : Type} (k0 : Bool → List G_Card → Option R) : Option R :=
 (g.Q_Words a1 (fun r3 r4 => (bif (!r4) then k0 false a2 else (bif ((r3.length : Int) != 5) then k0 false a2 else (inr r3 0 (at_ r3 0 fun x5 => (g.Q_Number x5 15 (fun r6 r7 => (inr r3 1 (at_ r3 1 fun x8 => (inr r3 2 (at_ r3 2 fun x9 => (inr r3 3 (at_ r3 3 fun x10 => (inr r3 4 (at_ r3 4 fun x11 => (g.Q_cardWords (fun r12 => (g.slices_Index__string r12 x8 (fun r13 => (g.Q_plainModes (fun r14 => (g.slices_Index__string r14 x11 (fun r15 => (bif (decide ((a2.length + [(⟨r6, r13, r15, x9, x10⟩ : G_Card)].length) * 56 ≤ roomBytes')) then (bif r7 then (bif (decide (r13 > 0)) then k0 (decide (r15 > 0)) (a2 ++ [(⟨r6, r13, r15, x9, x10⟩ : G_Card)]) else k0 false (a2 ++ [(⟨r6, r13, r15, x9, x10⟩ : G_Card)])) else k0 false (a2 ++ [(⟨r6, r13, r15, x9, x10⟩ : G_Card)])) else none)))))))))))))))))))))))))
noncomputable def I_Q_CardsRead_1_ba1 [Fuel] : C_Q_CardsRead_1_ba1 := ⟨NN, @Q_Words _, @Q_cardWords _, @Q_plainModes _, @Q_Number _, @slices_Index__string _⟩
noncomputable def Q_CardsRead_1_ba1 [Fuel] : T_Q_CardsRead_1_ba1 := @Q_CardsRead_1_ba1_ I_Q_CardsRead_1_ba1
def SS_Q_CardsRead_1_ba1 (g : T_Q_CardsRead_1_ba1) : Spec A := fun args => match args with | [.d (.str a1), .box [.arr 51 a2]] => fun k => g a1 a2 (fun z0 z1 => k (.d (.bool z0)) [.undef, .box [.arr 51 z1]]) | _ => fun _ => none
noncomputable def code_90 : Code := (Tryz.f90.body).getD .skip
noncomputable def E_Q_CardsRead_1_ba1 (g : C_Q_CardsRead_1_ba1) : Env A := mkE [(65, SS_Q_Words g.Q_Words), (87, SS_Q_cardWords g.Q_cardWords), (88, SS_Q_plainModes g.Q_plainModes), (91, SS_Q_Number g.Q_Number), (92, SS_slices_Index__string g.slices_Index__string)] [(8, [3]), (11, [2]), (29, [4]), (40, [5]), (48, [6]), (49, [7])] [] [] [] [] [] [] [] [1]
theorem sm_Q_CardsRead_1_ba1 (g : C_Q_CardsRead_1_ba1) : Same (SS_Q_CardsRead_1_ba1 (@Q_CardsRead_1_ba1_ g)) (abody (E_Q_CardsRead_1_ba1 g) Tryz.f90 code_90 8 [0, 1] [.asis] g.N) := by intro args; unfold SS_Q_CardsRead_1_ba1; split; exact .inr fun R k => (by kernel_rfl); exact .inl fun R k => rfl
theorem ok_Q_CardsRead_1_ba1 [Fuel] : Ok 90 (SS_Q_CardsRead_1_ba1 (@Q_CardsRead_1_ba1 _)) := okF_of std (.cons ok_Q_Words (.cons ok_Q_cardWords (.cons ok_Q_plainModes (.cons ok_Q_Number (.cons ok_slices_Index__string .nil))))) ⟨rfl, rfl, by kernel_rfl, rfl, rfl, rfl⟩ (sm_Q_CardsRead_1_ba1 I_Q_CardsRead_1_ba1) (cuts0 (fun _ => rfl) (by kernel_rfl)) Tryz.func90 (by kernel_rfl) (by kernel_rfl)
abbrev T_Q_Lines_Q_CardsRead_1bn : Type 1 := List UInt8 → {R : Type} → (Int → Bool → List G_Card → Option R) → Option R
structure C_Q_Lines_Q_CardsRead_1bn where
 N : Nat
 Q_CardsRead_1_ba1 : T_Q_CardsRead_1_ba1
 strings_Cut : T_strings_Cut
def Q_Lines_Q_CardsRead_1bn_L2 (g : C_Q_Lines_Q_CardsRead_1bn) : Nat → List UInt8 → Int → List G_Card → {R : Type} → (Int → Bool → List G_Card → Option R) → (Int → Bool → List G_Card → Option R) → (List G_Card → Option R) → Option R
 | 0, _, _, _, _, _, _, _ => none
 | n + 1, v2, v3, v4, _, e0, e1, e2 => (bif (!(v2 == [])) then (g.strings_Cut v2 [10] (fun r10 r11 r12 => (bif (!r12) then e0 v3 false v4 else (g.Q_CardsRead_1_ba1 r10 v4 (fun r13 r14 => (bif (!r13) then e1 v3 false r14 else Q_Lines_Q_CardsRead_1bn_L2 g n r11 (w64 (v3 + 1)) r14 e0 e1 e2)))))) else e2 v4)
def Q_Lines_Q_CardsRead_1bn_ (g : C_Q_Lines_Q_CardsRead_1bn) (a1 : List UInt8) {R : Type} (k0 : Int → Bool → List G_Card → Option R) : Option R :=
 (Q_Lines_Q_CardsRead_1bn_L2 g g.N a1 0 [] (fun e15 e16 e17 => k0 e15 e16 e17) (fun e18 e19 e20 => k0 e18 e19 e20) (fun e21 => k0 0 true e21))
noncomputable def I_Q_Lines_Q_CardsRead_1bn [Fuel] : C_Q_Lines_Q_CardsRead_1bn := ⟨NN, @Q_CardsRead_1_ba1 _, @strings_Cut _⟩
noncomputable def Q_Lines_Q_CardsRead_1bn [Fuel] : T_Q_Lines_Q_CardsRead_1bn := @Q_Lines_Q_CardsRead_1bn_ I_Q_Lines_Q_CardsRead_1bn
def SS_Q_Lines_Q_CardsRead_1bn (g : T_Q_Lines_Q_CardsRead_1bn) : Spec A := fun args => match args with | [.d (.str a1), .fn 90 [.box [.d .nsl]]] => fun k => g a1 (fun z0 z1 z2 => k (.tup [.d (.int .i64 z0), .d (.bool z1)]) [.undef, .fn 90 [.box [.arr 51 z2]]]) | _ => fun _ => none
def sh_Q_Lines_Q_CardsRead_1bn_L2 : SSt := mkSh 30 3 [(0, .str), (1, .fn 90 [.ptr 0 0]), (6, .int .i64)] [(0, .box [.own 51 1]), (1, .row 51)]
def LP_Q_Lines_Q_CardsRead_1bn_L2 (g : C_Q_Lines_Q_CardsRead_1bn) (n : Nat) : LPT A := fun ps => match ps with | [.d (.str p1), .d (.int .i64 p2), .d (.sl 51 p3)] => fun K => Q_Lines_Q_CardsRead_1bn_L2 g n p1 p2 p3 (fun z0 z1 z2 => K .ret (mkSt 30 3 [(1, .fn 90 [.ptr 0 0]), (4, .d (.int .i64 z0)), (5, .d (.bool z1))] [(0, some (.box [.own 51 1])), (1, some (.row 51 z2))])) (fun z0 z1 z2 => K .ret (mkSt 30 3 [(1, .fn 90 [.ptr 0 0]), (4, .d (.int .i64 z0)), (5, .d (.bool z1))] [(0, some (.box [.own 51 2])), (1, some (.gone (0, 51))), (2, some (.row 51 z2))])) (fun z0 => K (.exit 0) (mkSt 30 3 [(1, .fn 90 [.ptr 0 0])] [(0, some (.box [.own 51 1])), (1, some (.row 51 z0))])) | _ => fun _ => none
noncomputable def code_63 : Code := (Tryz.f63.body).getD .skip
noncomputable def E_Q_Lines_Q_CardsRead_1bn (g : C_Q_Lines_Q_CardsRead_1bn) : Env A := mkE [(90, SS_Q_CardsRead_1_ba1 g.Q_CardsRead_1_ba1), (128, SS_strings_Cut g.strings_Cut)] [(25, [2])] [(2, ⟨[0, 1, 6], [], [0], [(0, 0, 51, 1)], [], [], []⟩)] [(2, ⟨[1, 4, 5], [], [0, 1, 2], [], [], [], []⟩)] [(2, pieceOf sh_Q_Lines_Q_CardsRead_1bn_L2 (LP_Q_Lines_Q_CardsRead_1bn_L2 g g.N))] [] [] [] [] [1]
theorem ct_Q_Lines_Q_CardsRead_1bn [Fuel] : NatTab (E_Q_Lines_Q_CardsRead_1bn I_Q_Lines_Q_CardsRead_1bn).C := ct_of (P := Tryz.prog) (T := T) (.cons ok_Q_CardsRead_1_ba1 (.cons ok_strings_Cut .nil)) (by kernel_rfl)
noncomputable def cb_Q_Lines_Q_CardsRead_1bn_L2 : Code := sub [1, 0, 1, 0, 0] code_63
theorem s_Q_Lines_Q_CardsRead_1bn_L2 (g : C_Q_Lines_Q_CardsRead_1bn) (n : Nat) : StepOk (E_Q_Lines_Q_CardsRead_1bn g) g.N cb_Q_Lines_Q_CardsRead_1bn_L2 sh_Q_Lines_Q_CardsRead_1bn_L2 (LP_Q_Lines_Q_CardsRead_1bn_L2 g) n := by intro ps; unfold LP_Q_Lines_Q_CardsRead_1bn_L2; split; exact .inr fun R K => (by kernel_rfl); exact .inl fun R K => rfl
theorem lf_Q_Lines_Q_CardsRead_1bn_L2 [Fuel] : LoopFine (E_Q_Lines_Q_CardsRead_1bn I_Q_Lines_Q_CardsRead_1bn) NN cb_Q_Lines_Q_CardsRead_1bn_L2 := fine_loop sh_Q_Lines_Q_CardsRead_1bn_L2 (LP_Q_Lines_Q_CardsRead_1bn_L2 I_Q_Lines_Q_CardsRead_1bn) (by kernel_rfl) ct_Q_Lines_Q_CardsRead_1bn (cuts0 (fun _ => rfl) (by kernel_rfl)) (fun ps R K => by unfold LP_Q_Lines_Q_CardsRead_1bn_L2; split <;> (try unfold Q_Lines_Q_CardsRead_1bn_L2) <;> rfl) (s_Q_Lines_Q_CardsRead_1bn_L2 I_Q_Lines_Q_CardsRead_1bn)
theorem sm_Q_Lines_Q_CardsRead_1bn (g : C_Q_Lines_Q_CardsRead_1bn) : Same (SS_Q_Lines_Q_CardsRead_1bn (@Q_Lines_Q_CardsRead_1bn_ g)) (abody (E_Q_Lines_Q_CardsRead_1bn g) Tryz.f63 code_63 3 [0] [.asis, .asis] g.N) := by intro args; unfold SS_Q_Lines_Q_CardsRead_1bn; split; exact .inr fun R k => (by kernel_rfl); exact .inl fun R k => rfl
theorem ok_Q_Lines_Q_CardsRead_1bn [Fuel] : Ok 63 (SS_Q_Lines_Q_CardsRead_1bn (@Q_Lines_Q_CardsRead_1bn _)) := okF_of std (.cons ok_Q_CardsRead_1_ba1 (.cons ok_strings_Cut .nil)) ⟨rfl, rfl, by kernel_rfl, rfl, rfl, rfl⟩ (sm_Q_Lines_Q_CardsRead_1bn I_Q_Lines_Q_CardsRead_1bn) (cutsL (fun _ => rfl) (.cons lf_Q_Lines_Q_CardsRead_1bn_L2 .nil) (by kernel_rfl)) Tryz.func63 (by kernel_rfl) (by kernel_rfl)
abbrev T_Q_CardsRead : Type 1 := List UInt8 → {R : Type} → (List G_Card → Int → Int → Option R) → Option R
structure C_Q_CardsRead where
 N : Nat
 Q_CardsFault : T_Q_CardsFault
 Q_Lines_Q_CardsRead_1bn : T_Q_Lines_Q_CardsRead_1bn
def Q_CardsRead_ (g : C_Q_CardsRead) (a1 : List UInt8) {R : Type} (k0 : List G_Card → Int → Int → Option R) : Option R :=
 (bif (decide ((a1.length : Int) > 200000)) then k0 [] 0 2 else (g.Q_Lines_Q_CardsRead_1bn a1 (fun r2 r3 r4 => (bif (!r3) then k0 [] r2 9 else (g.Q_CardsFault r4 (fun r5 => (bif (r5 != 0) then k0 [] 0 r5 else k0 r4 0 0)))))))
noncomputable def I_Q_CardsRead [Fuel] : C_Q_CardsRead := ⟨NN, @Q_CardsFault _, @Q_Lines_Q_CardsRead_1bn _⟩
noncomputable def Q_CardsRead [Fuel] : T_Q_CardsRead := @Q_CardsRead_ I_Q_CardsRead
def SS_Q_CardsRead (g : T_Q_CardsRead) : Spec A := fun args => match args with | [.d (.str a1)] => fun k => g a1 (fun z0 z1 z2 => k (.tup [.arr 51 z0, .d (.int .i64 z1), .d (.int .i64 z2)]) [.undef]) | _ => fun _ => none
noncomputable def code_23 : Code := (Tryz.f23.body).getD .skip
noncomputable def E_Q_CardsRead (g : C_Q_CardsRead) : Env A := mkE [(20, SS_Q_CardsFault g.Q_CardsFault), (63, SS_Q_Lines_Q_CardsRead_1bn g.Q_Lines_Q_CardsRead_1bn)] [(5, [0]), (15, [1])] [] [] [] [] [] [] [] []
theorem sm_Q_CardsRead (g : C_Q_CardsRead) : Same (SS_Q_CardsRead (@Q_CardsRead_ g)) (abody (E_Q_CardsRead g) Tryz.f23 code_23 2 [] [.arr 51, .asis, .asis] g.N) := by intro args; unfold SS_Q_CardsRead; split; exact .inr fun R k => (by kernel_rfl); exact .inl fun R k => rfl
theorem ok_Q_CardsRead [Fuel] : Ok 23 (SS_Q_CardsRead (@Q_CardsRead _)) := okF_of std (.cons ok_Q_CardsFault (.cons ok_Q_Lines_Q_CardsRead_1bn .nil)) ⟨rfl, rfl, by kernel_rfl, rfl, rfl, rfl⟩ (sm_Q_CardsRead I_Q_CardsRead) (cuts0 (fun _ => rfl) (by kernel_rfl)) Tryz.func23 (by kernel_rfl) (by kernel_rfl)
abbrev T_slices_Equal__Card : Type 1 := List G_Card → List G_Card → {R : Type} → (Bool → Option R) → Option R
def slices_Equal__Card_L4 (g : Nat) : Nat → List G_Card → List G_Card → Int → Int → {R : Type} → (Bool → Option R) → Option R → Option R
 | 0, _, _, _, _, _, _, _ => none
 | n + 1, v3, v4, v5, v6, _, e0, e1 => (bif (decide (v6 < v5)) then (get_ v3 v6 fun x9 => (get_ v4 v6 fun x10 => (bif (!(eq_G_Card x9 x10)) then e0 false else slices_Equal__Card_L4 g n v3 v4 v5 (w64 (v6 + 1)) e0 e1))) else e1)
def slices_Equal__Card_ (g : Nat) (a1 a2 : List G_Card) {R : Type} (k0 : Bool → Option R) : Option R :=
 (bif ((a1.length : Int) != (a2.length : Int)) then k0 false else (slices_Equal__Card_L4 g g a1 a2 (a1.length : Int) 0 (fun e11 => k0 e11) (k0 true)))
noncomputable def slices_Equal__Card [Fuel] : T_slices_Equal__Card := @slices_Equal__Card_ NN
def SS_slices_Equal__Card (g : T_slices_Equal__Card) : Spec A := fun args => match args with | [.d (.sl 51 a1), .d (.sl 51 a2)] => fun k => g a1 a2 (fun z0 => k (.d (.bool z0)) [.undef, .undef]) | _ => fun _ => none
def sh_slices_Equal__Card_L4 : SSt := mkSh 26 0 [(0, .sl 51), (1, .sl 51), (12, .int .i64), (13, .int .i64)] []
def LP_slices_Equal__Card_L4 (g : Nat) (n : Nat) : LPT A := fun ps => match ps with | [.d (.sl 51 p1), .d (.sl 51 p2), .d (.int .i64 p3), .d (.int .i64 p4)] => fun K => slices_Equal__Card_L4 g n p1 p2 p3 p4 (fun z0 => K .ret (mkSt 26 0 [(4, .d (.bool z0))] [])) (K (.exit 0) (mkSt 26 0 [] [])) | _ => fun _ => none
noncomputable def code_24 : Code := (Tryz.f24.body).getD .skip
noncomputable def E_slices_Equal__Card (g : Nat) : Env A := mkE [] [] [(4, ⟨[0, 1, 12, 13], [], [], [], [], [], []⟩)] [(4, ⟨[4], [], [], [], [], [], []⟩)] [(4, pieceOf sh_slices_Equal__Card_L4 (LP_slices_Equal__Card_L4 g g))] [] [] [] [] []
theorem ct_slices_Equal__Card [Fuel] : NatTab (E_slices_Equal__Card NN).C := ct_of (P := Tryz.prog) (T := T) .nil (by kernel_rfl)
noncomputable def cb_slices_Equal__Card_L4 : Code := sub [1, 1, 0, 1, 0, 0] code_24
theorem s_slices_Equal__Card_L4 (g : Nat) (n : Nat) : StepOk (E_slices_Equal__Card g) g cb_slices_Equal__Card_L4 sh_slices_Equal__Card_L4 (LP_slices_Equal__Card_L4 g) n := by intro ps; unfold LP_slices_Equal__Card_L4; split; exact .inr fun R K => (by kernel_rfl); exact .inl fun R K => rfl
theorem lf_slices_Equal__Card_L4 [Fuel] : LoopFine (E_slices_Equal__Card NN) NN cb_slices_Equal__Card_L4 := fine_loop sh_slices_Equal__Card_L4 (LP_slices_Equal__Card_L4 NN) (by kernel_rfl) ct_slices_Equal__Card (cuts0 (fun _ => rfl) (by kernel_rfl)) (fun ps R K => by unfold LP_slices_Equal__Card_L4; split <;> (try unfold slices_Equal__Card_L4) <;> rfl) (s_slices_Equal__Card_L4 NN)
theorem sm_slices_Equal__Card (g : Nat) : Same (SS_slices_Equal__Card (@slices_Equal__Card_ g)) (abody (E_slices_Equal__Card g) Tryz.f24 code_24 0 [] [.asis] g) := by intro args; unfold SS_slices_Equal__Card; split; exact .inr fun R k => (by kernel_rfl); exact .inl fun R k => rfl
theorem ok_slices_Equal__Card [Fuel] : Ok 24 (SS_slices_Equal__Card (@slices_Equal__Card _)) := okF_of std .nil ⟨rfl, rfl, by kernel_rfl, rfl, rfl, rfl⟩ (sm_slices_Equal__Card NN) (cutsL (fun _ => rfl) (.cons lf_slices_Equal__Card_L4 .nil) (by kernel_rfl)) Tryz.func24 (by kernel_rfl) (by kernel_rfl)
abbrev T_club_isSquare : Type 1 := List UInt8 → {R : Type} → (Bool → Option R) → Option R
def club_isSquare_L4 (g : Nat) : Nat → List UInt8 → Int → Int → {R : Type} → (Bool → Option R) → Option R → Option R
 | 0, _, _, _, _, _, _ => none
 | n + 1, v2, v3, v4, _, e0, e1 => (bif (decide (v4 < v3)) then (bif ((w64 (Int.tdiv v4 2)) == 1) then (get_ v2 v4 fun x11 => (bif (decide ((x11.toNat : Int) < 48)) then e0 false else (get_ v2 v4 fun x12 => (bif (decide ((x12.toNat : Int) > 57)) then e0 false else club_isSquare_L4 g n v2 v3 (w64 (v4 + 1)) e0 e1)))) else (bif ((w64 (Int.tdiv v4 2)) == 2) then (get_ v2 v4 fun x13 => (bif (decide ((x13.toNat : Int) < 97)) then e0 false else (get_ v2 v4 fun x14 => (bif (decide ((x14.toNat : Int) > 120)) then e0 false else club_isSquare_L4 g n v2 v3 (w64 (v4 + 1)) e0 e1)))) else (get_ v2 v4 fun x15 => (bif (decide ((x15.toNat : Int) < 97)) then e0 false else (get_ v2 v4 fun x16 => (bif (decide ((x16.toNat : Int) > 114)) then e0 false else club_isSquare_L4 g n v2 v3 (w64 (v4 + 1)) e0 e1)))))) else e1)
def club_isSquare_ (g : Nat) (a1 : List UInt8) {R : Type} (k0 : Bool → Option R) : Option R :=
 (bif ((a1.length : Int) != 2) then (bif ((a1.length : Int) != 4) then (bif ((a1.length : Int) != 6) then k0 false else (club_isSquare_L4 g g a1 (a1.length : Int) 0 (fun e17 => k0 e17) (k0 true))) else (club_isSquare_L4 g g a1 (a1.length : Int) 0 (fun e18 => k0 e18) (k0 true))) else (club_isSquare_L4 g g a1 (a1.length : Int) 0 (fun e19 => k0 e19) (k0 true)))
noncomputable def club_isSquare [Fuel] : T_club_isSquare := @club_isSquare_ NN
def SS_club_isSquare (g : T_club_isSquare) : Spec A := fun args => match args with | [.d (.str a1)] => fun k => g a1 (fun z0 => k (.d (.bool z0)) [.undef]) | _ => fun _ => none
def sh_club_isSquare_L4 : SSt := mkSh 43 0 [(0, .str), (20, .int .i64), (21, .int .i64)] []
def LP_club_isSquare_L4 (g : Nat) (n : Nat) : LPT A := fun ps => match ps with | [.d (.str p1), .d (.int .i64 p2), .d (.int .i64 p3)] => fun K => club_isSquare_L4 g n p1 p2 p3 (fun z0 => K .ret (mkSt 43 0 [(2, .d (.bool z0))] [])) (K (.exit 0) (mkSt 43 0 [] [])) | _ => fun _ => none
noncomputable def code_246 : Code := (Tryz.f246.body).getD .skip
noncomputable def E_club_isSquare (g : Nat) : Env A := mkE [] [] [(4, ⟨[0, 20, 21], [], [], [], [], [], []⟩)] [(4, ⟨[2], [], [], [], [], [], []⟩)] [(4, pieceOf sh_club_isSquare_L4 (LP_club_isSquare_L4 g g))] [] [] [] [] []
theorem ct_club_isSquare [Fuel] : NatTab (E_club_isSquare NN).C := ct_of (P := Tryz.prog) (T := T) .nil (by kernel_rfl)
noncomputable def cb_club_isSquare_L4 : Code := sub [1, 1, 0, 1, 0, 0] code_246
theorem s_club_isSquare_L4 (g : Nat) (n : Nat) : StepOk (E_club_isSquare g) g cb_club_isSquare_L4 sh_club_isSquare_L4 (LP_club_isSquare_L4 g) n := by intro ps; unfold LP_club_isSquare_L4; split; exact .inr fun R K => (by kernel_rfl); exact .inl fun R K => rfl
theorem lf_club_isSquare_L4 [Fuel] : LoopFine (E_club_isSquare NN) NN cb_club_isSquare_L4 := fine_loop sh_club_isSquare_L4 (LP_club_isSquare_L4 NN) (by kernel_rfl) ct_club_isSquare (cuts0 (fun _ => rfl) (by kernel_rfl)) (fun ps R K => by unfold LP_club_isSquare_L4; split <;> (try unfold club_isSquare_L4) <;> rfl) (s_club_isSquare_L4 NN)
theorem sm_club_isSquare (g : Nat) : Same (SS_club_isSquare (@club_isSquare_ g)) (abody (E_club_isSquare g) Tryz.f246 code_246 0 [] [.asis] g) := by intro args; unfold SS_club_isSquare; split; exact .inr fun R k => (by kernel_rfl); exact .inl fun R k => rfl
theorem ok_club_isSquare [Fuel] : Ok 246 (SS_club_isSquare (@club_isSquare _)) := okF_of std .nil ⟨rfl, rfl, by kernel_rfl, rfl, rfl, rfl⟩ (sm_club_isSquare NN) (cutsL (fun _ => rfl) (.cons lf_club_isSquare_L4 .nil) (by kernel_rfl)) Tryz.func246 (by kernel_rfl) (by kernel_rfl)
abbrev T_club_isLocator : Type 1 := List UInt8 → {R : Type} → (Bool → Option R) → Option R
structure C_club_isLocator where
 N : Nat
 club_isSquare : T_club_isSquare
def club_isLocator_ (g : C_club_isLocator) (a1 : List UInt8) {R : Type} (k0 : Bool → Option R) : Option R :=
 (bif ((a1.length : Int) == 6) then (g.club_isSquare a1 (fun r2 => k0 r2)) else k0 false)
noncomputable def I_club_isLocator [Fuel] : C_club_isLocator := ⟨NN, @club_isSquare _⟩
noncomputable def club_isLocator [Fuel] : T_club_isLocator := @club_isLocator_ I_club_isLocator
def SS_club_isLocator (g : T_club_isLocator) : Spec A := fun args => match args with | [.d (.str a1)] => fun k => g a1 (fun z0 => k (.d (.bool z0)) [.undef]) | _ => fun _ => none
noncomputable def code_189 : Code := (Tryz.f189.body).getD .skip
noncomputable def E_club_isLocator (g : C_club_isLocator) : Env A := mkE [(246, SS_club_isSquare g.club_isSquare)] [] [] [] [] [] [] [] [] []
theorem sm_club_isLocator (g : C_club_isLocator) : Same (SS_club_isLocator (@club_isLocator_ g)) (abody (E_club_isLocator g) Tryz.f189 code_189 0 [] [.asis] g.N) := by intro args; unfold SS_club_isLocator; split; exact .inr fun R k => (by kernel_rfl); exact .inl fun R k => rfl
theorem ok_club_isLocator [Fuel] : Ok 189 (SS_club_isLocator (@club_isLocator _)) := okF_of std (.cons ok_club_isSquare .nil) ⟨rfl, rfl, by kernel_rfl, rfl, rfl, rfl⟩ (sm_club_isLocator I_club_isLocator) (cuts0 (fun _ => rfl) (by kernel_rfl)) Tryz.func189 (by kernel_rfl) (by kernel_rfl)
abbrev T_club_CheckEntrants : Type 1 := List G_Entrant → {R : Type} → (Int → Option R) → Option R
structure C_club_CheckEntrants where
 N : Nat
 strings_Compare : T_strings_Compare
 kit_Outside : T_kit_Outside
 call_Is : T_call_Is
 kit_IsKey : T_kit_IsKey
 cmp_Or__int : T_cmp_Or__int
 club_isLocator : T_club_isLocator
def club_CheckEntrants_L4 (g : C_club_CheckEntrants) : Nat → List G_Entrant → List G_Entrant → Int → Int → {R : Type} → (Int → Option R) → Option R → Option R
 | 0, _, _, _, _, _, _, _ => none
 | n + 1, v2, v3, v4, v5, _, e0, e1 => (bif (decide (v5 < v4)) then (get_ v3 v5 fun x21 => (g.call_Is x21.f_Call (fun r22 => (bif (!r22) then e0 3 else (g.kit_IsKey x21.f_Category (fun r23 => (bif (!r23) then e0 5 else (g.kit_Outside x21.f_Points 0 1000000000000 (fun r24 => (bif r24 then e0 1 else (bif (!(x21.f_Locator == [])) then (g.club_isLocator x21.f_Locator (fun r25 => (bif (!r25) then e0 3 else (bif (decide (v5 > 0)) then (get_ v2 (w64 (v5 - 1)) fun x26 => (get_ v2 (w64 (v5 - 1)) fun x27 => (g.strings_Compare x26.f_Category x21.f_Category (fun r28 => (g.strings_Compare x27.f_Call x21.f_Call (fun r29 => (g.cmp_Or__int [r28, r29] (fun r30 => (bif (decide (r30 ≥ 0)) then e0 7 else club_CheckEntrants_L4 g n v2 v3 v4 (w64 (v5 + 1)) e0 e1))))))))) else club_CheckEntrants_L4 g n v2 v3 v4 (w64 (v5 + 1)) e0 e1)))) else (bif (decide (v5 > 0)) then (get_ v2 (w64 (v5 - 1)) fun x31 => (get_ v2 (w64 (v5 - 1)) fun x32 => (g.strings_Compare x31.f_Category x21.f_Category (fun r33 => (g.strings_Compare x32.f_Call x21.f_Call (fun r34 => (g.cmp_Or__int [r33, r34] (fun r35 => (bif (decide (r35 ≥ 0)) then e0 7 else club_CheckEntrants_L4 g n v2 v3 v4 (w64 (v5 + 1)) e0 e1))))))))) else club_CheckEntrants_L4 g n v2 v3 v4 (w64 (v5 + 1)) e0 e1)))))))))))) else e1)
def club_CheckEntrants_ (g : C_club_CheckEntrants) (a1 : List G_Entrant) {R : Type} (k0 : Int → Option R) : Option R :=
 (bif (decide ((a1.length : Int) > 500)) then k0 2 else (club_CheckEntrants_L4 g g.N a1 a1 (a1.length : Int) 0 (fun e36 => k0 e36) (k0 0)))
noncomputable def I_club_CheckEntrants [Fuel] : C_club_CheckEntrants := ⟨NN, @strings_Compare _, @kit_Outside _, @call_Is _, @kit_IsKey _, @cmp_Or__int _, @club_isLocator _⟩
noncomputable def club_CheckEntrants [Fuel] : T_club_CheckEntrants := @club_CheckEntrants_ I_club_CheckEntrants
def SS_club_CheckEntrants (g : T_club_CheckEntrants) : Spec A := fun args => match args with | [.d (.sl 119 a1)] => fun k => g a1 (fun z0 => k (.d (.int .i64 z0)) [.undef]) | _ => fun _ => none
def sh_club_CheckEntrants_L4 : SSt := mkSh 66 2 [(0, .sl 119), (8, .sl 119), (9, .int .i64), (10, .int .i64)] []
def LP_club_CheckEntrants_L4 (g : C_club_CheckEntrants) (n : Nat) : LPT A := fun ps => match ps with | [.d (.sl 119 p1), .d (.sl 119 p2), .d (.int .i64 p3), .d (.int .i64 p4)] => fun K => club_CheckEntrants_L4 g n p1 p2 p3 p4 (fun z0 => K .ret (mkSt 66 2 [(2, .d (.int .i64 z0))] [])) (K (.exit 0) (mkSt 66 2 [] [])) | _ => fun _ => none
noncomputable def code_145 : Code := (Tryz.f145.body).getD .skip
noncomputable def E_club_CheckEntrants (g : C_club_CheckEntrants) : Env A := mkE [(118, SS_strings_Compare g.strings_Compare), (134, SS_kit_Outside g.kit_Outside), (136, SS_call_Is g.call_Is), (137, SS_kit_IsKey g.kit_IsKey), (168, SS_cmp_Or__int g.cmp_Or__int), (189, SS_club_isLocator g.club_isLocator)] [(4, [0]), (61, [1])] [(4, ⟨[0, 8, 9, 10], [], [], [], [], [], []⟩)] [(4, ⟨[2], [], [], [], [], [], []⟩)] [(4, pieceOf sh_club_CheckEntrants_L4 (LP_club_CheckEntrants_L4 g g.N))] [] [] [] [] []
theorem ct_club_CheckEntrants [Fuel] : NatTab (E_club_CheckEntrants I_club_CheckEntrants).C := ct_of (P := Tryz.prog) (T := T) (.cons ok_strings_Compare (.cons ok_kit_Outside (.cons ok_call_Is (.cons ok_kit_IsKey (.cons ok_cmp_Or__int (.cons ok_club_isLocator .nil)))))) (by kernel_rfl)
noncomputable def cb_club_CheckEntrants_L4 : Code := sub [1, 1, 0, 1, 0, 0] code_145
theorem s_club_CheckEntrants_L4 (g : C_club_CheckEntrants) (n : Nat) : StepOk (E_club_CheckEntrants g) g.N cb_club_CheckEntrants_L4 sh_club_CheckEntrants_L4 (LP_club_CheckEntrants_L4 g) n := by intro ps; unfold LP_club_CheckEntrants_L4; split; exact .inr fun R K => (by kernel_rfl); exact .inl fun R K => rfl
theorem lf_club_CheckEntrants_L4 [Fuel] : LoopFine (E_club_CheckEntrants I_club_CheckEntrants) NN cb_club_CheckEntrants_L4 := fine_loop sh_club_CheckEntrants_L4 (LP_club_CheckEntrants_L4 I_club_CheckEntrants) (by kernel_rfl) ct_club_CheckEntrants (cuts0 (fun _ => rfl) (by kernel_rfl)) (fun ps R K => by unfold LP_club_CheckEntrants_L4; split <;> (try unfold club_CheckEntrants_L4) <;> rfl) (s_club_CheckEntrants_L4 I_club_CheckEntrants)
theorem sm_club_CheckEntrants (g : C_club_CheckEntrants) : Same (SS_club_CheckEntrants (@club_CheckEntrants_ g)) (abody (E_club_CheckEntrants g) Tryz.f145 code_145 2 [] [.asis] g.N) := by intro args; unfold SS_club_CheckEntrants; split; exact .inr fun R k => (by kernel_rfl); exact .inl fun R k => rfl
theorem ok_club_CheckEntrants [Fuel] : Ok 145 (SS_club_CheckEntrants (@club_CheckEntrants _)) := okF_of std (.cons ok_strings_Compare (.cons ok_kit_Outside (.cons ok_call_Is (.cons ok_kit_IsKey (.cons ok_cmp_Or__int (.cons ok_club_isLocator .nil)))))) ⟨rfl, rfl, by kernel_rfl, rfl, rfl, rfl⟩ (sm_club_CheckEntrants I_club_CheckEntrants) (cutsL (fun _ => rfl) (.cons lf_club_CheckEntrants_L4 .nil) (by kernel_rfl)) Tryz.func145 (by kernel_rfl) (by kernel_rfl)
abbrev T_club_ranked_1 : Type 1 := G_Place → G_Place → {R : Type} → (Int → Option R) → Option R
structure C_club_ranked_1 where
 N : Nat
 strings_Compare : T_strings_Compare
 cmp_Or__int : T_cmp_Or__int
 cmp_Compare__int : T_cmp_Compare__int
def club_ranked_1_ (g : C_club_ranked_1) (a1 a2 : G_Place) {R : Type} (k0 : Int → Option R) : Option R :=
 (g.cmp_Compare__int a2.f_Points a1.f_Points (fun r3 => (g.strings_Compare a1.f_Key a2.f_Key (fun r4 => (g.cmp_Or__int [r3, r4] (fun r5 => k0 r5))))))
noncomputable def I_club_ranked_1 [Fuel] : C_club_ranked_1 := ⟨NN, @strings_Compare _, @cmp_Or__int _, @cmp_Compare__int _⟩
noncomputable def club_ranked_1 [Fuel] : T_club_ranked_1 := @club_ranked_1_ I_club_ranked_1
def SS_club_ranked_1 (g : T_club_ranked_1) : Spec A := fun args => match args with | [.agg [.d (.int .i64 a1), .d (.int .i64 a2), .d (.str a3)], .agg [.d (.int .i64 a4), .d (.int .i64 a5), .d (.str a6)]] => fun k => g ⟨a1, a2, a3⟩ ⟨a4, a5, a6⟩ (fun z0 => k (.d (.int .i64 z0)) [.undef, .undef]) | _ => fun _ => none
noncomputable def code_191 : Code := (Tryz.f191.body).getD .skip
noncomputable def E_club_ranked_1 (g : C_club_ranked_1) : Env A := mkE [(118, SS_strings_Compare g.strings_Compare), (168, SS_cmp_Or__int g.cmp_Or__int), (169, SS_cmp_Compare__int g.cmp_Compare__int)] [(2, [0]), (3, [1]), (15, [2])] [] [] [] [] [] [] [] []
theorem sm_club_ranked_1 (g : C_club_ranked_1) : Same (SS_club_ranked_1 (@club_ranked_1_ g)) (abody (E_club_ranked_1 g) Tryz.f191 code_191 3 [] [.asis] g.N) := by intro args; unfold SS_club_ranked_1; split; exact .inr fun R k => (by kernel_rfl); exact .inl fun R k => rfl
theorem ok_club_ranked_1 [Fuel] : Ok 191 (SS_club_ranked_1 (@club_ranked_1 _)) := okF_of std (.cons ok_strings_Compare (.cons ok_cmp_Or__int (.cons ok_cmp_Compare__int .nil))) ⟨rfl, rfl, by kernel_rfl, rfl, rfl, rfl⟩ (sm_club_ranked_1 I_club_ranked_1) (cuts0 (fun _ => rfl) (by kernel_rfl)) Tryz.func191 (by kernel_rfl) (by kernel_rfl)
noncomputable def Ed_club_ranked_1 (g : C_club_ranked_1) : Env A := mkED [(118, SS_strings_Compare g.strings_Compare), (168, SS_cmp_Or__int g.cmp_Or__int), (169, SS_cmp_Compare__int g.cmp_Compare__int)] [(2, [0]), (3, [1]), (15, [2])] [] [] [] [] [] [] [] []
theorem smd_club_ranked_1 (g : C_club_ranked_1) : Same (SS_club_ranked_1 (@club_ranked_1_ g)) (abody (Ed_club_ranked_1 g) Tryz.f191 code_191 3 [] [.asis] g.N) := by intro args; unfold SS_club_ranked_1; split; exact .inr fun R k => (by kernel_rfl); exact .inl fun R k => rfl
theorem okd_club_ranked_1 [Fuel] : OkD 191 (SS_club_ranked_1 (@club_ranked_1 _)) := okF_of stdD (.cons okd_strings_Compare (.cons okd_cmp_Or__int (.cons okd_cmp_Compare__int .nil))) ⟨rfl, rfl, by kernel_rfl, rfl, rfl, rfl⟩ (smd_club_ranked_1 I_club_ranked_1) (cuts0 (fun _ => rfl) (by kernel_rfl)) Tryz.func191 (by kernel_rfl) (by kernel_rfl)
abbrev T_slices_SortFunc__Place_club_ranked_1 : Type 1 := List G_Place → {R : Type} → (List G_Place → Option R) → Option R
noncomputable def slices_SortFunc__Place_club_ranked_1 [Fuel] : T_slices_SortFunc__Place_club_ranked_1 := @X_sortf G_Place (@club_ranked_1 _)
def SS_slices_SortFunc__Place_club_ranked_1 (g : T_slices_SortFunc__Place_club_ranked_1) : Spec A := fun args => match args with | [.arr 122 a1, .fn 191 []] => fun k => g a1 (fun z => k (.tup []) [.arr 122 z, .fn 191 []]) | _ => fun _ => none
theorem h1_slices_SortFunc__Place_club_ranked_1 [Fuel] (xs : List (A 122)) (R : Type) (k : IV A → List (IV A) → Option R) : SS_slices_SortFunc__Place_club_ranked_1 (@slices_SortFunc__Place_club_ranked_1 _) [.arr 122 xs, .fn 191 []] k = X_sortf (α := A 122) (@club_ranked_1 _) xs (fun z => k (.tup []) [.arr 122 z, .fn 191 []]) := by kernel_rfl
theorem h2_slices_SortFunc__Place_club_ranked_1 [Fuel] (args : List (IV A)) (R : Type) (k : IV A → List (IV A) → Option R) (h : ∀ xs : List (A 122), args ≠ [.arr 122 xs, .fn 191 []]) : SS_slices_SortFunc__Place_club_ranked_1 (@slices_SortFunc__Place_club_ranked_1 _) args k = none := by unfold SS_slices_SortFunc__Place_club_ranked_1; split; exact absurd rfl (h _); rfl
theorem hc_slices_SortFunc__Place_club_ranked_1 [Fuel] (x y : A 122) (R : Type) (k : Int → Option R) : callOf T (SS_club_ranked_1 (@club_ranked_1 _)) 122 x y k = @club_ranked_1 _ x y R k := by kernel_rfl
theorem hs_slices_SortFunc__Place_club_ranked_1 (x : G_Place) : (enc_e122 x).all scal = true := rfl
theorem ok_slices_SortFunc__Place_club_ranked_1 [Fuel] : Ok 190 (SS_slices_SortFunc__Place_club_ranked_1 (@slices_SortFunc__Place_club_ranked_1 _)) := ⟨sortf_sound (tyOk Tryz.prog) (e := 122) Tryz.sortf190 Tryz.isAgg122 Tryz.sizeOf122 (fun x d hd => List.all_eq_true.1 (hs_slices_SortFunc__Place_club_ranked_1 x) d hd) hc_slices_SortFunc__Place_club_ranked_1 okd_club_ranked_1.fs okd_club_ranked_1.en h1_slices_SortFunc__Place_club_ranked_1 h2_slices_SortFunc__Place_club_ranked_1, sortf_na (e := 122) h1_slices_SortFunc__Place_club_ranked_1 h2_slices_SortFunc__Place_club_ranked_1, enters_of (fn := Tryz.f190) Tryz.func190 (by kernel_rfl) (by kernel_rfl)⟩
end Go.Am
