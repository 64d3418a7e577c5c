/- The functions of the program as Lean functions, each shown to be what the code computes, part 6. No condition: lemmas for the claim. -/
import Derived.Test.YtoajjnhmofegcaaGreatDoorF0
import Derived.Test.YtoajjnhmofegcaaGreatDoorFSh
import Derived.Test.YtoajjnhmofegcaaGreatDoorF2
import Derived.Test.YtoajjnhmofegcaaGreatDoorF3
import Derived.Test.YtoajjnhmofegcaaGreatDoorF4
import Derived.Test.YtoajjnhmofegcaaGreatDoorF5
set_option linter.unusedVariables false
set_option maxRecDepth 100000
namespace Go.Am
open Go Go.Proofs
abbrev T_band_Read : Type 1 := List UInt8 → {R : Type} → (List G_Spot → Int → Int → Option R) → Option R
structure C_band_Read where
 N : Nat
 kit_Lines : T_kit_Lines
 kit_Words : T_kit_Words
 band_CheckSpots : T_band_CheckSpots
 kit_Numbers : T_kit_Numbers
def band_Read_L6 (g : C_band_Read) : Nat → Bool → Int → Int → List (List UInt8) → List G_Spot → {R : Type} → (Int → Int → List G_Spot → Option R) → (List G_Spot → Option R) → Option R
 | 0, _, _, _, _, _, _, _, _ => none
 | n + 1, v4, v5, v6, v7, v8, _, e0, e1 => (bif (decide (v6 < v5)) then (inr v7 v6 (at_ v7 v6 fun x24 => (g.kit_Words x24 (fun r25 r26 => (bif (!r26) then e0 v6 9 v8 else (bif ((r25.length : Int) != 4) then e0 v6 9 v8 else (bif (!v4) then (bif (v6 == (w64 ((v7.length : Int) - 1))) then e0 v6 9 v8 else (bif (decide (0 ≤ 2) && decide (2 ≤ (r25.length : Int))) then (g.kit_Numbers (r25.take (2 : Int).toNat) (fun r27 r28 => (bif (!r28) then e0 v6 9 v8 else (inr r27 0 (at_ r27 0 fun x29 => (inr r27 1 (at_ r27 1 fun x30 => (inr r25 2 (at_ r25 2 fun x31 => (inr r25 3 (at_ r25 3 fun x32 => (bif (decide ((v8.length + [(⟨x29, x30, x31, x32⟩ : G_Spot)].length) * 48 ≤ roomBytes')) then band_Read_L6 g n v4 v5 (w64 (v6 + 1)) v7 (v8 ++ [(⟨x29, x30, x31, x32⟩ : G_Spot)]) e0 e1 else none)))))))))))) else none)) else (bif (decide (0 ≤ 2) && decide (2 ≤ (r25.length : Int))) then (g.kit_Numbers (r25.take (2 : Int).toNat) (fun r33 r34 => (bif (!r34) then e0 v6 9 v8 else (inr r33 0 (at_ r33 0 fun x35 => (inr r33 1 (at_ r33 1 fun x36 => (inr r25 2 (at_ r25 2 fun x37 => (inr r25 3 (at_ r25 3 fun x38 => (bif (decide ((v8.length + [(⟨x35, x36, x37, x38⟩ : G_Spot)].length) * 48 ≤ roomBytes')) then band_Read_L6 g n v4 v5 (w64 (v6 + 1)) v7 (v8 ++ [(⟨x35, x36, x37, x38⟩ : G_Spot)]) e0 e1 else none)))))))))))) else none)))))))) else e1 v8)
def band_Read_ (g : C_band_Read) (a1 : List UInt8) {R : Type} (k0 : List G_Spot → Int → Int → Option R) : Option R :=
 (bif (decide ((a1.length : Int) > 200000)) then k0 [] 0 2 else (g.kit_Lines a1 (fun r2 r3 => (band_Read_L6 g g.N r3 (r2.length : Int) 0 r2 [] (fun e39 e40 e41 => k0 [] e39 e40) (fun e42 => (g.band_CheckSpots e42 (fun r43 => (bif (r43 != 0) then k0 [] 0 r43 else k0 e42 0 0))))))))
noncomputable def I_band_Read [Fuel] : C_band_Read := ⟨NN, @kit_Lines _, @kit_Words _, @band_CheckSpots _, @kit_Numbers _⟩
noncomputable def band_Read [Fuel] : T_band_Read := @band_Read_ I_band_Read
def SS_band_Read (g : T_band_Read) : Spec A := fun args => match args with | [.d (.str a1)] => fun k => g a1 (fun z0 z1 z2 => k (.tup [.arr 61 z0, .d (.int .i64 z1), .d (.int .i64 z2)]) [.undef]) | _ => fun _ => none
def sh_band_Read_L6 : SSt := mkSh 85 6 [(5, .own 9 0), (6, .bool), (7, .own 61 1), (22, .own 9 0), (23, .int .i64), (24, .int .i64)] [(0, .row 9), (1, .row 61)]
def LP_band_Read_L6 (g : C_band_Read) (n : Nat) : LPT A := fun ps => match ps with | [.d (.bool p1), .d (.int .i64 p2), .d (.int .i64 p3), .d (.sl 9 p4), .d (.sl 61 p5)] => fun K => band_Read_L6 g n p1 p2 p3 p4 p5 (fun z0 z1 z2 => K .ret (mkSt 85 6 [(2, .d .nsl), (3, .d (.int .i64 z0)), (4, .d (.int .i64 z1)), (7, .own 61 1)] [(1, some (.row 61 z2))])) (fun z0 => K (.exit 0) (mkSt 85 6 [(7, .own 61 1)] [(1, some (.row 61 z0))])) | _ => fun _ => none
noncomputable def code_31 : Code := (Tryz.f31.body).getD .skip
noncomputable def E_band_Read (g : C_band_Read) : Env A := mkE [(60, SS_kit_Lines g.kit_Lines), (61, SS_kit_Words g.kit_Words), (98, SS_band_CheckSpots g.band_CheckSpots), (100, SS_kit_Numbers g.kit_Numbers)] [(19, [0]), (31, [2]), (56, [3]), (76, [4]), (77, [5])] [(6, ⟨[5, 6, 7, 22, 23, 24], [(7, 61, 1)], [0], [], [], [], []⟩)] [(6, ⟨[2, 3, 4, 7], [], [1], [], [], [], []⟩)] [(6, pieceOf sh_band_Read_L6 (LP_band_Read_L6 g g.N))] [] [] [] [] []
theorem ct_band_Read [Fuel] : NatTab (E_band_Read I_band_Read).C := ct_of (P := Tryz.prog) (T := T) (.cons ok_kit_Lines (.cons ok_kit_Words (.cons ok_band_CheckSpots (.cons ok_kit_Numbers .nil)))) (by kernel_rfl)
noncomputable def cb_band_Read_L6 : Code := sub [1, 1, 1, 1, 0, 1, 0, 0] code_31
theorem s_band_Read_L6 (g : C_band_Read) (n : Nat) : StepOk (E_band_Read g) g.N cb_band_Read_L6 sh_band_Read_L6 (LP_band_Read_L6 g) n := by intro ps; unfold LP_band_Read_L6; split; exact .inr fun R K => (by kernel_rfl); exact .inl fun R K => rfl
theorem lf_band_Read_L6 [Fuel] : LoopFine (E_band_Read I_band_Read) NN cb_band_Read_L6 := fine_loop sh_band_Read_L6 (LP_band_Read_L6 I_band_Read) (by kernel_rfl) ct_band_Read (cuts0 (fun _ => rfl) (by kernel_rfl)) (fun ps R K => by unfold LP_band_Read_L6; split <;> (try unfold band_Read_L6) <;> rfl) (s_band_Read_L6 I_band_Read)
theorem sm_band_Read (g : C_band_Read) : Same (SS_band_Read (@band_Read_ g)) (abody (E_band_Read g) Tryz.f31 code_31 6 [] [.arr 61, .asis, .asis] g.N) := by intro args; unfold SS_band_Read; split; exact .inr fun R k => (by kernel_rfl); exact .inl fun R k => rfl
theorem ok_band_Read [Fuel] : Ok 31 (SS_band_Read (@band_Read _)) := okF_of std (.cons ok_kit_Lines (.cons ok_kit_Words (.cons ok_band_CheckSpots (.cons ok_kit_Numbers .nil)))) ⟨rfl, rfl, by kernel_rfl, rfl, rfl, rfl⟩ (sm_band_Read I_band_Read) (cutsL (fun _ => rfl) (.cons lf_band_Read_L6 .nil) (by kernel_rfl)) Tryz.func31 (by kernel_rfl) (by kernel_rfl)
abbrev T_slices_Index__string : Type 1 := List (List UInt8) → List UInt8 → {R : Type} → (Int → Option R) → Option R
def slices_Index__string_L2 (g : Nat) : Nat → List (List UInt8) → List UInt8 → Int → Int → {R : Type} → (Int → Option R) → Option R → Option R
 | 0, _, _, _, _, _, _, _ => none
 | n + 1, v3, v4, v5, v6, _, e0, e1 => (bif (decide (v6 < v5)) then (get_ v3 v6 fun x8 => (bif (v4 == x8) then e0 v6 else slices_Index__string_L2 g n v3 v4 v5 (w64 (v6 + 1)) e0 e1)) else e1)
def slices_Index__string_ (g : Nat) (a1 : List (List UInt8)) (a2 : List UInt8) {R : Type} (k0 : Int → Option R) : Option R :=
 (slices_Index__string_L2 g g a1 a2 (a1.length : Int) 0 (fun e9 => k0 e9) (k0 (-1)))
noncomputable def slices_Index__string [Fuel] : T_slices_Index__string := @slices_Index__string_ NN
def SS_slices_Index__string (g : T_slices_Index__string) : Spec A := fun args => match args with | [.d (.sl 9 a1), .d (.str a2)] => fun k => g a1 a2 (fun z0 => k (.d (.int .i64 z0)) [.undef, .undef]) | _ => fun _ => none
def sh_slices_Index__string_L2 : SSt := mkSh 19 0 [(0, .sl 9), (1, .str), (7, .int .i64), (8, .int .i64)] []
def LP_slices_Index__string_L2 (g : Nat) (n : Nat) : LPT A := fun ps => match ps with | [.d (.sl 9 p1), .d (.str p2), .d (.int .i64 p3), .d (.int .i64 p4)] => fun K => slices_Index__string_L2 g n p1 p2 p3 p4 (fun z0 => K .ret (mkSt 19 0 [(4, .d (.int .i64 z0))] [])) (K (.exit 0) (mkSt 19 0 [] [])) | _ => fun _ => none
noncomputable def code_92 : Code := (Tryz.f92.body).getD .skip
noncomputable def E_slices_Index__string (g : Nat) : Env A := mkE [] [] [(2, ⟨[0, 1, 7, 8], [], [], [], [], [], []⟩)] [(2, ⟨[4], [], [], [], [], [], []⟩)] [(2, pieceOf sh_slices_Index__string_L2 (LP_slices_Index__string_L2 g g))] [] [] [] [] []
theorem ct_slices_Index__string [Fuel] : NatTab (E_slices_Index__string NN).C := ct_of (P := Tryz.prog) (T := T) .nil (by kernel_rfl)
noncomputable def cb_slices_Index__string_L2 : Code := sub [1, 0, 1, 0, 0] code_92
theorem s_slices_Index__string_L2 (g : Nat) (n : Nat) : StepOk (E_slices_Index__string g) g cb_slices_Index__string_L2 sh_slices_Index__string_L2 (LP_slices_Index__string_L2 g) n := by intro ps; unfold LP_slices_Index__string_L2; split; exact .inr fun R K => (by kernel_rfl); exact .inl fun R K => rfl
theorem lf_slices_Index__string_L2 [Fuel] : LoopFine (E_slices_Index__string NN) NN cb_slices_Index__string_L2 := fine_loop sh_slices_Index__string_L2 (LP_slices_Index__string_L2 NN) (by kernel_rfl) ct_slices_Index__string (cuts0 (fun _ => rfl) (by kernel_rfl)) (fun ps R K => by unfold LP_slices_Index__string_L2; split <;> (try unfold slices_Index__string_L2) <;> rfl) (s_slices_Index__string_L2 NN)
theorem sm_slices_Index__string (g : Nat) : Same (SS_slices_Index__string (@slices_Index__string_ g)) (abody (E_slices_Index__string g) Tryz.f92 code_92 0 [] [.asis] g) := by intro args; unfold SS_slices_Index__string; split; exact .inr fun R k => (by kernel_rfl); exact .inl fun R k => rfl
theorem ok_slices_Index__string [Fuel] : Ok 92 (SS_slices_Index__string (@slices_Index__string _)) := okF_of std .nil ⟨rfl, rfl, by kernel_rfl, rfl, rfl, rfl⟩ (sm_slices_Index__string NN) (cutsL (fun _ => rfl) (.cons lf_slices_Index__string_L2 .nil) (by kernel_rfl)) Tryz.func92 (by kernel_rfl) (by kernel_rfl)
abbrev T_slices_Contains__string : Type 1 := List (List UInt8) → List UInt8 → {R : Type} → (Bool → Option R) → Option R
structure C_slices_Contains__string where
 N : Nat
 slices_Index__string : T_slices_Index__string
def slices_Contains__string_ (g : C_slices_Contains__string) (a1 : List (List UInt8)) (a2 : List UInt8) {R : Type} (k0 : Bool → Option R) : Option R :=
 (g.slices_Index__string a1 a2 (fun r3 => k0 (decide (r3 ≥ 0))))
noncomputable def I_slices_Contains__string [Fuel] : C_slices_Contains__string := ⟨NN, @slices_Index__string _⟩
noncomputable def slices_Contains__string [Fuel] : T_slices_Contains__string := @slices_Contains__string_ I_slices_Contains__string
def SS_slices_Contains__string (g : T_slices_Contains__string) : Spec A := fun args => match args with | [.d (.sl 9 a1), .d (.str a2)] => fun k => g a1 a2 (fun z0 => k (.d (.bool z0)) [.undef, .undef]) | _ => fun _ => none
noncomputable def code_129 : Code := (Tryz.f129.body).getD .skip
noncomputable def E_slices_Contains__string (g : C_slices_Contains__string) : Env A := mkE [(92, SS_slices_Index__string g.slices_Index__string)] [] [] [] [] [] [] [] [] []
theorem sm_slices_Contains__string (g : C_slices_Contains__string) : Same (SS_slices_Contains__string (@slices_Contains__string_ g)) (abody (E_slices_Contains__string g) Tryz.f129 code_129 0 [] [.asis] g.N) := by intro args; unfold SS_slices_Contains__string; split; exact .inr fun R k => (by kernel_rfl); exact .inl fun R k => rfl
theorem ok_slices_Contains__string [Fuel] : Ok 129 (SS_slices_Contains__string (@slices_Contains__string _)) := okF_of std (.cons ok_slices_Index__string .nil) ⟨rfl, rfl, by kernel_rfl, rfl, rfl, rfl⟩ (sm_slices_Contains__string I_slices_Contains__string) (cuts0 (fun _ => rfl) (by kernel_rfl)) Tryz.func129 (by kernel_rfl) (by kernel_rfl)
abbrev T_Q_Words : Type 1 := List UInt8 → {R : Type} → (List (List UInt8) → Bool → Option R) → Option R
structure C_Q_Words where
 N : Nat
 strings_Split : T_strings_Split
 slices_Contains__string : T_slices_Contains__string
def Q_Words_ (g : C_Q_Words) (a1 : List UInt8) {R : Type} (k0 : List (List UInt8) → Bool → Option R) : Option R :=
 (g.strings_Split a1 [32] (fun r2 => (g.slices_Contains__string r2 [] (fun r3 => k0 r2 (!r3)))))
noncomputable def I_Q_Words [Fuel] : C_Q_Words := ⟨NN, @strings_Split _, @slices_Contains__string _⟩
noncomputable def Q_Words [Fuel] : T_Q_Words := @Q_Words_ I_Q_Words
def SS_Q_Words (g : T_Q_Words) : Spec A := fun args => match args with | [.d (.str a1)] => fun k => g a1 (fun z0 z1 => k (.tup [.arr 9 z0, .d (.bool z1)]) [.undef]) | _ => fun _ => none
noncomputable def code_65 : Code := (Tryz.f65.body).getD .skip
noncomputable def E_Q_Words (g : C_Q_Words) : Env A := mkE [(126, SS_strings_Split g.strings_Split), (129, SS_slices_Contains__string g.slices_Contains__string)] [(6, [0])] [] [] [] [] [] [] [] []
theorem sm_Q_Words (g : C_Q_Words) : Same (SS_Q_Words (@Q_Words_ g)) (abody (E_Q_Words g) Tryz.f65 code_65 1 [] [.arr 9, .asis] g.N) := by intro args; unfold SS_Q_Words; split; exact .inr fun R k => (by kernel_rfl); exact .inl fun R k => rfl
theorem ok_Q_Words [Fuel] : Ok 65 (SS_Q_Words (@Q_Words _)) := okF_of std (.cons ok_strings_Split (.cons ok_slices_Contains__string .nil)) ⟨rfl, rfl, by kernel_rfl, rfl, rfl, rfl⟩ (sm_Q_Words I_Q_Words) (cuts0 (fun _ => rfl) (by kernel_rfl)) Tryz.func65 (by kernel_rfl) (by kernel_rfl)
abbrev T_stringslite_TrimPrefix : Type 1 := List UInt8 → List UInt8 → {R : Type} → (List UInt8 → Option R) → Option R
structure C_stringslite_TrimPrefix where
 N : Nat
 stringslite_HasPrefix : T_stringslite_HasPrefix
def stringslite_TrimPrefix_ (g : C_stringslite_TrimPrefix) (a1 a2 : List UInt8) {R : Type} (k0 : List UInt8 → Option R) : Option R :=
 (g.stringslite_HasPrefix a1 a2 (fun r3 => (bif r3 then (bif (decide (0 ≤ (a2.length : Int)) && decide ((a2.length : Int) ≤ (a1.length : Int))) then k0 (a1.drop ((a2.length : Int) : Int).toNat) else none) else k0 a1)))
noncomputable def I_stringslite_TrimPrefix [Fuel] : C_stringslite_TrimPrefix := ⟨NN, @stringslite_HasPrefix _⟩
noncomputable def stringslite_TrimPrefix [Fuel] : T_stringslite_TrimPrefix := @stringslite_TrimPrefix_ I_stringslite_TrimPrefix
def SS_stringslite_TrimPrefix (g : T_stringslite_TrimPrefix) : Spec A := fun args => match args with | [.d (.str a1), .d (.str a2)] => fun k => g a1 a2 (fun z0 => k (.d (.str z0)) [.undef, .undef]) | _ => fun _ => none
noncomputable def code_186 : Code := (Tryz.f186.body).getD .skip
noncomputable def E_stringslite_TrimPrefix (g : C_stringslite_TrimPrefix) : Env A := mkE [(240, SS_stringslite_HasPrefix g.stringslite_HasPrefix)] [] [] [] [] [] [] [] [] []
theorem sm_stringslite_TrimPrefix (g : C_stringslite_TrimPrefix) : Same (SS_stringslite_TrimPrefix (@stringslite_TrimPrefix_ g)) (abody (E_stringslite_TrimPrefix g) Tryz.f186 code_186 0 [] [.asis] g.N) := by intro args; unfold SS_stringslite_TrimPrefix; split; exact .inr fun R k => (by kernel_rfl); exact .inl fun R k => rfl
theorem ok_stringslite_TrimPrefix [Fuel] : Ok 186 (SS_stringslite_TrimPrefix (@stringslite_TrimPrefix _)) := okF_of std (.cons ok_stringslite_HasPrefix .nil) ⟨rfl, rfl, by kernel_rfl, rfl, rfl, rfl⟩ (sm_stringslite_TrimPrefix I_stringslite_TrimPrefix) (cuts0 (fun _ => rfl) (by kernel_rfl)) Tryz.func186 (by kernel_rfl) (by kernel_rfl)
abbrev T_strings_TrimPrefix : Type 1 := List UInt8 → List UInt8 → {R : Type} → (List UInt8 → Option R) → Option R
structure C_strings_TrimPrefix where
 N : Nat
 stringslite_TrimPrefix : T_stringslite_TrimPrefix
def strings_TrimPrefix_ (g : C_strings_TrimPrefix) (a1 a2 : List UInt8) {R : Type} (k0 : List UInt8 → Option R) : Option R :=
 (g.stringslite_TrimPrefix a1 a2 (fun r3 => k0 r3))
noncomputable def I_strings_TrimPrefix [Fuel] : C_strings_TrimPrefix := ⟨NN, @stringslite_TrimPrefix _⟩
noncomputable def strings_TrimPrefix [Fuel] : T_strings_TrimPrefix := @strings_TrimPrefix_ I_strings_TrimPrefix
def SS_strings_TrimPrefix (g : T_strings_TrimPrefix) : Spec A := fun args => match args with | [.d (.str a1), .d (.str a2)] => fun k => g a1 a2 (fun z0 => k (.d (.str z0)) [.undef, .undef]) | _ => fun _ => none
noncomputable def code_143 : Code := (Tryz.f143.body).getD .skip
noncomputable def E_strings_TrimPrefix (g : C_strings_TrimPrefix) : Env A := mkE [(186, SS_stringslite_TrimPrefix g.stringslite_TrimPrefix)] [] [] [] [] [] [] [] [] []
theorem sm_strings_TrimPrefix (g : C_strings_TrimPrefix) : Same (SS_strings_TrimPrefix (@strings_TrimPrefix_ g)) (abody (E_strings_TrimPrefix g) Tryz.f143 code_143 0 [] [.asis] g.N) := by intro args; unfold SS_strings_TrimPrefix; split; exact .inr fun R k => (by kernel_rfl); exact .inl fun R k => rfl
theorem ok_strings_TrimPrefix [Fuel] : Ok 143 (SS_strings_TrimPrefix (@strings_TrimPrefix _)) := okF_of std (.cons ok_stringslite_TrimPrefix .nil) ⟨rfl, rfl, by kernel_rfl, rfl, rfl, rfl⟩ (sm_strings_TrimPrefix I_strings_TrimPrefix) (cuts0 (fun _ => rfl) (by kernel_rfl)) Tryz.func143 (by kernel_rfl) (by kernel_rfl)
abbrev T_strings_IndexByte : Type 1 := List UInt8 → Int → {R : Type} → (Int → Option R) → Option R
def strings_IndexByte [Fuel] : T_strings_IndexByte := @X_ixb
def SS_strings_IndexByte (g : T_strings_IndexByte) : Spec A := SSX_ixb g
theorem ok_strings_IndexByte [Fuel] : Ok 178 (SS_strings_IndexByte (@strings_IndexByte _)) := ⟨ssx_ixb_sound (ixb_sound (Any.strings_IndexByte Tryz.lays137)), ssx_ixb_nat, enters_of (fn := Tryz.f178) Tryz.func178 (by kernel_rfl) (by kernel_rfl)⟩
abbrev T_Q_only : Type 1 := List UInt8 → List UInt8 → {R : Type} → (Bool → Option R) → Option R
structure C_Q_only where
 N : Nat
 strings_IndexByte : T_strings_IndexByte
def Q_only_L2 (g : C_Q_only) : Nat → List UInt8 → List UInt8 → Int → Int → {R : Type} → (Bool → Option R) → Option R → Option R
 | 0, _, _, _, _, _, _, _ => none
 | n + 1, v3, v4, v5, v6, _, e0, e1 => (bif (decide (v6 < v5)) then (get_ v3 v6 fun x9 => (g.strings_IndexByte v4 (x9.toNat : Int) (fun r10 => (bif (decide (r10 < 0)) then e0 false else Q_only_L2 g n v3 v4 v5 (w64 (v6 + 1)) e0 e1)))) else e1)
def Q_only_ (g : C_Q_only) (a1 a2 : List UInt8) {R : Type} (k0 : Bool → Option R) : Option R :=
 (Q_only_L2 g g.N a1 a2 (a1.length : Int) 0 (fun e11 => k0 e11) (k0 true))
noncomputable def I_Q_only [Fuel] : C_Q_only := ⟨NN, @strings_IndexByte _⟩
noncomputable def Q_only [Fuel] : T_Q_only := @Q_only_ I_Q_only
def SS_Q_only (g : T_Q_only) : Spec A := fun args => match args with | [.d (.str a1), .d (.str a2)] => fun k => g a1 a2 (fun z0 => k (.d (.bool z0)) [.undef, .undef]) | _ => fun _ => none
def sh_Q_only_L2 : SSt := mkSh 18 0 [(0, .str), (1, .str), (7, .int .i64), (8, .int .i64)] []
def LP_Q_only_L2 (g : C_Q_only) (n : Nat) : LPT A := fun ps => match ps with | [.d (.str p1), .d (.str p2), .d (.int .i64 p3), .d (.int .i64 p4)] => fun K => Q_only_L2 g n p1 p2 p3 p4 (fun z0 => K .ret (mkSt 18 0 [(4, .d (.bool z0))] [])) (K (.exit 0) (mkSt 18 0 [] [])) | _ => fun _ => none
noncomputable def code_141 : Code := (Tryz.f141.body).getD .skip
noncomputable def E_Q_only (g : C_Q_only) : Env A := mkE [(178, SS_strings_IndexByte g.strings_IndexByte)] [] [(2, ⟨[0, 1, 7, 8], [], [], [], [], [], []⟩)] [(2, ⟨[4], [], [], [], [], [], []⟩)] [(2, pieceOf sh_Q_only_L2 (LP_Q_only_L2 g g.N))] [] [] [] [] []
theorem ct_Q_only [Fuel] : NatTab (E_Q_only I_Q_only).C := ct_of (P := Tryz.prog) (T := T) (.cons ok_strings_IndexByte .nil) (by kernel_rfl)
noncomputable def cb_Q_only_L2 : Code := sub [1, 0, 1, 0, 0] code_141
theorem s_Q_only_L2 (g : C_Q_only) (n : Nat) : StepOk (E_Q_only g) g.N cb_Q_only_L2 sh_Q_only_L2 (LP_Q_only_L2 g) n := by intro ps; unfold LP_Q_only_L2; split; exact .inr fun R K => (by kernel_rfl); exact .inl fun R K => rfl
theorem lf_Q_only_L2 [Fuel] : LoopFine (E_Q_only I_Q_only) NN cb_Q_only_L2 := fine_loop sh_Q_only_L2 (LP_Q_only_L2 I_Q_only) (by kernel_rfl) ct_Q_only (cuts0 (fun _ => rfl) (by kernel_rfl)) (fun ps R K => by unfold LP_Q_only_L2; split <;> (try unfold Q_only_L2) <;> rfl) (s_Q_only_L2 I_Q_only)
theorem sm_Q_only (g : C_Q_only) : Same (SS_Q_only (@Q_only_ g)) (abody (E_Q_only g) Tryz.f141 code_141 0 [] [.asis] g.N) := by intro args; unfold SS_Q_only; split; exact .inr fun R k => (by kernel_rfl); exact .inl fun R k => rfl
theorem ok_Q_only [Fuel] : Ok 141 (SS_Q_only (@Q_only _)) := okF_of std (.cons ok_strings_IndexByte .nil) ⟨rfl, rfl, by kernel_rfl, rfl, rfl, rfl⟩ (sm_Q_only I_Q_only) (cutsL (fun _ => rfl) (.cons lf_Q_only_L2 .nil) (by kernel_rfl)) Tryz.func141 (by kernel_rfl) (by kernel_rfl)
abbrev T_Q_Number : Type 1 := List UInt8 → Int → {R : Type} → (Int → Bool → Option R) → Option R
structure C_Q_Number where
 N : Nat
 strconv_Itoa : T_strconv_Itoa
 Q_only : T_Q_only
 strings_TrimPrefix : T_strings_TrimPrefix
 strconv_Atoi : T_strconv_Atoi
def Q_Number_ (g : C_Q_Number) (a1 : List UInt8) (a2 : Int) {R : Type} (k0 : Int → Bool → Option R) : Option R :=
 (g.strings_TrimPrefix a1 [45] (fun r3 => (bif (r3 == []) then k0 0 false else (bif (decide ((r3.length : Int) > a2)) then k0 0 false else (g.Q_only r3 [48, 49, 50, 51, 52, 53, 54, 55, 56, 57] (fun r4 => (bif (!r4) then k0 0 false else (g.strconv_Atoi a1 (fun r5 => (g.strconv_Itoa r5 (fun r6 => k0 r5 (r6 == a1))))))))))))
noncomputable def I_Q_Number [Fuel] : C_Q_Number := ⟨NN, @strconv_Itoa _, @Q_only _, @strings_TrimPrefix _, @strconv_Atoi _⟩
noncomputable def Q_Number [Fuel] : T_Q_Number := @Q_Number_ I_Q_Number
def SS_Q_Number (g : T_Q_Number) : Spec A := fun args => match args with | [.d (.str a1), .d (.int .i64 a2)] => fun k => g a1 a2 (fun z0 z1 => k (.tup [.d (.int .i64 z0), .d (.bool z1)]) [.undef, .undef]) | _ => fun _ => none
noncomputable def code_91 : Code := (Tryz.f91.body).getD .skip
noncomputable def E_Q_Number (g : C_Q_Number) : Env A := mkE [(79, SS_strconv_Itoa g.strconv_Itoa), (141, SS_Q_only g.Q_only), (143, SS_strings_TrimPrefix g.strings_TrimPrefix), (144, SS_strconv_Atoi g.strconv_Atoi)] [] [] [] [] [] [] [] [] []
theorem sm_Q_Number (g : C_Q_Number) : Same (SS_Q_Number (@Q_Number_ g)) (abody (E_Q_Number g) Tryz.f91 code_91 0 [] [.asis, .asis] g.N) := by intro args; unfold SS_Q_Number; split; exact .inr fun R k => (by kernel_rfl); exact .inl fun R k => rfl
theorem ok_Q_Number [Fuel] : Ok 91 (SS_Q_Number (@Q_Number _)) := okF_of std (.cons ok_strconv_Itoa (.cons ok_Q_only (.cons ok_strings_TrimPrefix (.cons ok_strconv_Atoi .nil)))) ⟨rfl, rfl, by kernel_rfl, rfl, rfl, rfl⟩ (sm_Q_Number I_Q_Number) (cuts0 (fun _ => rfl) (by kernel_rfl)) Tryz.func91 (by kernel_rfl) (by kernel_rfl)
abbrev T_Q_NumbersIn : Type 1 := List (List UInt8) → Int → {R : Type} → (List Int → Bool → Option R) → Option R
structure C_Q_NumbersIn where
 N : Nat
 Q_Number : T_Q_Number
def Q_NumbersIn_L4 (g : C_Q_NumbersIn) : Nat → Int → Bool → List (List UInt8) → Int → Int → List Int → {R : Type} → (Bool → List Int → Option R) → Option R
 | 0, _, _, _, _, _, _, _, _ => none
 | n + 1, v3, v4, v5, v6, v7, v8, _, e0 => (bif (decide (v7 < v6)) then (get_ v5 v7 fun x12 => (g.Q_Number x12 v3 (fun r13 r14 => (bif (decide ((v8.length + [r13].length) * 8 ≤ roomBytes')) then (bif v4 then Q_NumbersIn_L4 g n v3 r14 v5 v6 (w64 (v7 + 1)) (v8 ++ [r13]) e0 else Q_NumbersIn_L4 g n v3 false v5 v6 (w64 (v7 + 1)) (v8 ++ [r13]) e0) else none)))) else e0 v4 v8)
def Q_NumbersIn_ (g : C_Q_NumbersIn) (a1 : List (List UInt8)) (a2 : Int) {R : Type} (k0 : List Int → Bool → Option R) : Option R :=
 (Q_NumbersIn_L4 g g.N a2 true a1 (a1.length : Int) 0 [] (fun e15 e16 => k0 e16 e15))
noncomputable def I_Q_NumbersIn [Fuel] : C_Q_NumbersIn := ⟨NN, @Q_Number _⟩
noncomputable def Q_NumbersIn [Fuel] : T_Q_NumbersIn := @Q_NumbersIn_ I_Q_NumbersIn
def SS_Q_NumbersIn (g : T_Q_NumbersIn) : Spec A := fun args => match args with | [.d (.sl 9 a1), .d (.int .i64 a2)] => fun k => g a1 a2 (fun z0 z1 => k (.tup [.arr 3 z0, .d (.bool z1)]) [.undef, .undef]) | _ => fun _ => none
def sh_Q_NumbersIn_L4 : SSt := mkSh 35 3 [(1, .int .i64), (6, .own 3 0), (7, .bool), (12, .sl 9), (13, .int .i64), (14, .int .i64)] [(0, .row 3)]
def LP_Q_NumbersIn_L4 (g : C_Q_NumbersIn) (n : Nat) : LPT A := fun ps => match ps with | [.d (.int .i64 p1), .d (.bool p2), .d (.sl 9 p3), .d (.int .i64 p4), .d (.int .i64 p5), .d (.sl 3 p6)] => fun K => Q_NumbersIn_L4 g n p1 p2 p3 p4 p5 p6 (fun z0 z1 => K (.exit 0) (mkSt 35 3 [(6, .own 3 0), (7, .d (.bool z0))] [(0, some (.row 3 z1))])) | _ => fun _ => none
noncomputable def code_102 : Code := (Tryz.f102.body).getD .skip
noncomputable def E_Q_NumbersIn (g : C_Q_NumbersIn) : Env A := mkE [(91, SS_Q_Number g.Q_Number)] [(26, [1]), (27, [2])] [(4, ⟨[1, 6, 7, 12, 13, 14], [(6, 3, 0)], [], [], [], [], []⟩)] [(4, ⟨[6, 7], [], [0], [], [], [], []⟩)] [(4, pieceOf sh_Q_NumbersIn_L4 (LP_Q_NumbersIn_L4 g g.N))] [] [] [] [] []
theorem ct_Q_NumbersIn [Fuel] : NatTab (E_Q_NumbersIn I_Q_NumbersIn).C := ct_of (P := Tryz.prog) (T := T) (.cons ok_Q_Number .nil) (by kernel_rfl)
noncomputable def cb_Q_NumbersIn_L4 : Code := sub [1, 1, 1, 0, 1, 0, 0] code_102
theorem s_Q_NumbersIn_L4 (g : C_Q_NumbersIn) (n : Nat) : StepOk (E_Q_NumbersIn g) g.N cb_Q_NumbersIn_L4 sh_Q_NumbersIn_L4 (LP_Q_NumbersIn_L4 g) n := by intro ps; unfold LP_Q_NumbersIn_L4; split; exact .inr fun R K => (by kernel_rfl); exact .inl fun R K => rfl
theorem lf_Q_NumbersIn_L4 [Fuel] : LoopFine (E_Q_NumbersIn I_Q_NumbersIn) NN cb_Q_NumbersIn_L4 := fine_loop sh_Q_NumbersIn_L4 (LP_Q_NumbersIn_L4 I_Q_NumbersIn) (by kernel_rfl) ct_Q_NumbersIn (cuts0 (fun _ => rfl) (by kernel_rfl)) (fun ps R K => by unfold LP_Q_NumbersIn_L4; split <;> (try unfold Q_NumbersIn_L4) <;> rfl) (s_Q_NumbersIn_L4 I_Q_NumbersIn)
theorem sm_Q_NumbersIn (g : C_Q_NumbersIn) : Same (SS_Q_NumbersIn (@Q_NumbersIn_ g)) (abody (E_Q_NumbersIn g) Tryz.f102 code_102 3 [] [.arr 3, .asis] g.N) := by intro args; unfold SS_Q_NumbersIn; split; exact .inr fun R k => (by kernel_rfl); exact .inl fun R k => rfl
theorem ok_Q_NumbersIn [Fuel] : Ok 102 (SS_Q_NumbersIn (@Q_NumbersIn _)) := okF_of std (.cons ok_Q_Number .nil) ⟨rfl, rfl, by kernel_rfl, rfl, rfl, rfl⟩ (sm_Q_NumbersIn I_Q_NumbersIn) (cutsL (fun _ => rfl) (.cons lf_Q_NumbersIn_L4 .nil) (by kernel_rfl)) Tryz.func102 (by kernel_rfl) (by kernel_rfl)
abbrev T_Q_SpotsRead_1_ba1 : Type 1 := List UInt8 → List G_Spot → {R : Type} → (Bool → List G_Spot → Option R) → Option R
structure C_Q_SpotsRead_1_ba1 where
 N : Nat
 Q_Words : T_Q_Words
 Q_NumbersIn : T_Q_NumbersIn
def Q_SpotsRead_1_ba1_ (g : C_Q_SpotsRead_1_ba1) (a1 : List UInt8) (a2 : List G_Spot) {R : Type} (k0 : Bool → List G_Spot → Option R) : Option R :=
 (g.Q_Words a1 (fun r3 r4 => (bif (!r4) then k0 false a2 else (bif ((r3.length : Int) != 4) then k0 false a2 else (bif (decide (0 ≤ 2) && decide (2 ≤ (r3.length : Int))) then (g.Q_NumbersIn (r3.take (2 : Int).toNat) 15 (fun r5 r6 => (inr r5 0 (at_ r5 0 fun x7 => (inr r5 1 (at_ r5 1 fun x8 => (inr r3 2 (at_ r3 2 fun x9 => (inr r3 3 (at_ r3 3 fun x10 => (bif (decide ((a2.length + [(⟨x7, x8, x9, x10⟩ : G_Spot)].length) * 48 ≤ roomBytes')) then k0 r6 (a2 ++ [(⟨x7, x8, x9, x10⟩ : G_Spot)]) else none))))))))))) else none)))))
noncomputable def I_Q_SpotsRead_1_ba1 [Fuel] : C_Q_SpotsRead_1_ba1 := ⟨NN, @Q_Words _, @Q_NumbersIn _⟩
noncomputable def Q_SpotsRead_1_ba1 [Fuel] : T_Q_SpotsRead_1_ba1 := @Q_SpotsRead_1_ba1_ I_Q_SpotsRead_1_ba1
def SS_Q_SpotsRead_1_ba1 (g : T_Q_SpotsRead_1_ba1) : Spec A := fun args => match args with | [.d (.str a1), .box [.arr 61 a2]] => fun k => g a1 a2 (fun z0 z1 => k (.d (.bool z0)) [.undef, .box [.arr 61 z1]]) | _ => fun _ => none
noncomputable def code_101 : Code := (Tryz.f101.body).getD .skip
noncomputable def E_Q_SpotsRead_1_ba1 (g : C_Q_SpotsRead_1_ba1) : Env A := mkE [(65, SS_Q_Words g.Q_Words), (102, SS_Q_NumbersIn g.Q_NumbersIn)] [(10, [2]), (23, [3]), (40, [4]), (41, [5])] [] [] [] [] [] [] [] [1]
theorem sm_Q_SpotsRead_1_ba1 (g : C_Q_SpotsRead_1_ba1) : Same (SS_Q_SpotsRead_1_ba1 (@Q_SpotsRead_1_ba1_ g)) (abody (E_Q_SpotsRead_1_ba1 g) Tryz.f101 code_101 6 [0, 1] [.asis] g.N) := by intro args; unfold SS_Q_SpotsRead_1_ba1; split; exact .inr fun R k => (by kernel_rfl); exact .inl fun R k => rfl
theorem ok_Q_SpotsRead_1_ba1 [Fuel] : Ok 101 (SS_Q_SpotsRead_1_ba1 (@Q_SpotsRead_1_ba1 _)) := okF_of std (.cons ok_Q_Words (.cons ok_Q_NumbersIn .nil)) ⟨rfl, rfl, by kernel_rfl, rfl, rfl, rfl⟩ (sm_Q_SpotsRead_1_ba1 I_Q_SpotsRead_1_ba1) (cuts0 (fun _ => rfl) (by kernel_rfl)) Tryz.func101 (by kernel_rfl) (by kernel_rfl)
abbrev T_Q_Lines_Q_SpotsRead_1bn : Type 1 := List UInt8 → {R : Type} → (Int → Bool → List G_Spot → Option R) → Option R
structure C_Q_Lines_Q_SpotsRead_1bn where
 N : Nat
 Q_SpotsRead_1_ba1 : T_Q_SpotsRead_1_ba1
 strings_Cut : T_strings_Cut
def Q_Lines_Q_SpotsRead_1bn_L2 (g : C_Q_Lines_Q_SpotsRead_1bn) : Nat → List UInt8 → Int → List G_Spot → {R : Type} → (Int → Bool → List G_Spot → Option R) → (Int → Bool → List G_Spot → Option R) → (List G_Spot → Option R) → Option R
 | 0, _, _, _, _, _, _, _ => none
 | n + 1, v2, v3, v4, _, e0, e1, e2 => (bif (!(v2 == [])) then (g.strings_Cut v2 [10] (fun r10 r11 r12 => (bif (!r12) then e0 v3 false v4 else (g.Q_SpotsRead_1_ba1 r10 v4 (fun r13 r14 => (bif (!r13) then e1 v3 false r14 else Q_Lines_Q_SpotsRead_1bn_L2 g n r11 (w64 (v3 + 1)) r14 e0 e1 e2)))))) else e2 v4)
def Q_Lines_Q_SpotsRead_1bn_ (g : C_Q_Lines_Q_SpotsRead_1bn) (a1 : List UInt8) {R : Type} (k0 : Int → Bool → List G_Spot → Option R) : Option R :=
 (Q_Lines_Q_SpotsRead_1bn_L2 g g.N a1 0 [] (fun e15 e16 e17 => k0 e15 e16 e17) (fun e18 e19 e20 => k0 e18 e19 e20) (fun e21 => k0 0 true e21))
noncomputable def I_Q_Lines_Q_SpotsRead_1bn [Fuel] : C_Q_Lines_Q_SpotsRead_1bn := ⟨NN, @Q_SpotsRead_1_ba1 _, @strings_Cut _⟩
noncomputable def Q_Lines_Q_SpotsRead_1bn [Fuel] : T_Q_Lines_Q_SpotsRead_1bn := @Q_Lines_Q_SpotsRead_1bn_ I_Q_Lines_Q_SpotsRead_1bn
def SS_Q_Lines_Q_SpotsRead_1bn (g : T_Q_Lines_Q_SpotsRead_1bn) : Spec A := fun args => match args with | [.d (.str a1), .fn 101 [.box [.d .nsl]]] => fun k => g a1 (fun z0 z1 z2 => k (.tup [.d (.int .i64 z0), .d (.bool z1)]) [.undef, .fn 101 [.box [.arr 61 z2]]]) | _ => fun _ => none
def sh_Q_Lines_Q_SpotsRead_1bn_L2 : SSt := mkSh 30 3 [(0, .str), (1, .fn 101 [.ptr 0 0]), (6, .int .i64)] [(0, .box [.own 61 1]), (1, .row 61)]
def LP_Q_Lines_Q_SpotsRead_1bn_L2 (g : C_Q_Lines_Q_SpotsRead_1bn) (n : Nat) : LPT A := fun ps => match ps with | [.d (.str p1), .d (.int .i64 p2), .d (.sl 61 p3)] => fun K => Q_Lines_Q_SpotsRead_1bn_L2 g n p1 p2 p3 (fun z0 z1 z2 => K .ret (mkSt 30 3 [(1, .fn 101 [.ptr 0 0]), (4, .d (.int .i64 z0)), (5, .d (.bool z1))] [(0, some (.box [.own 61 1])), (1, some (.row 61 z2))])) (fun z0 z1 z2 => K .ret (mkSt 30 3 [(1, .fn 101 [.ptr 0 0]), (4, .d (.int .i64 z0)), (5, .d (.bool z1))] [(0, some (.box [.own 61 2])), (1, some (.gone (0, 61))), (2, some (.row 61 z2))])) (fun z0 => K (.exit 0) (mkSt 30 3 [(1, .fn 101 [.ptr 0 0])] [(0, some (.box [.own 61 1])), (1, some (.row 61 z0))])) | _ => fun _ => none
noncomputable def code_63 : Code := (Tryz.f63.body).getD .skip
noncomputable def E_Q_Lines_Q_SpotsRead_1bn (g : C_Q_Lines_Q_SpotsRead_1bn) : Env A := mkE [(101, SS_Q_SpotsRead_1_ba1 g.Q_SpotsRead_1_ba1), (128, SS_strings_Cut g.strings_Cut)] [(25, [2])] [(2, ⟨[0, 1, 6], [], [0], [(0, 0, 61, 1)], [], [], []⟩)] [(2, ⟨[1, 4, 5], [], [0, 1, 2], [], [], [], []⟩)] [(2, pieceOf sh_Q_Lines_Q_SpotsRead_1bn_L2 (LP_Q_Lines_Q_SpotsRead_1bn_L2 g g.N))] [] [] [] [] [1]
theorem ct_Q_Lines_Q_SpotsRead_1bn [Fuel] : NatTab (E_Q_Lines_Q_SpotsRead_1bn I_Q_Lines_Q_SpotsRead_1bn).C := ct_of (P := Tryz.prog) (T := T) (.cons ok_Q_SpotsRead_1_ba1 (.cons ok_strings_Cut .nil)) (by kernel_rfl)
noncomputable def cb_Q_Lines_Q_SpotsRead_1bn_L2 : Code := sub [1, 0, 1, 0, 0] code_63
theorem s_Q_Lines_Q_SpotsRead_1bn_L2 (g : C_Q_Lines_Q_SpotsRead_1bn) (n : Nat) : StepOk (E_Q_Lines_Q_SpotsRead_1bn g) g.N cb_Q_Lines_Q_SpotsRead_1bn_L2 sh_Q_Lines_Q_SpotsRead_1bn_L2 (LP_Q_Lines_Q_SpotsRead_1bn_L2 g) n := by intro ps; unfold LP_Q_Lines_Q_SpotsRead_1bn_L2; split; exact .inr fun R K => (by kernel_rfl); exact .inl fun R K => rfl
theorem lf_Q_Lines_Q_SpotsRead_1bn_L2 [Fuel] : LoopFine (E_Q_Lines_Q_SpotsRead_1bn I_Q_Lines_Q_SpotsRead_1bn) NN cb_Q_Lines_Q_SpotsRead_1bn_L2 := fine_loop sh_Q_Lines_Q_SpotsRead_1bn_L2 (LP_Q_Lines_Q_SpotsRead_1bn_L2 I_Q_Lines_Q_SpotsRead_1bn) (by kernel_rfl) ct_Q_Lines_Q_SpotsRead_1bn (cuts0 (fun _ => rfl) (by kernel_rfl)) (fun ps R K => by unfold LP_Q_Lines_Q_SpotsRead_1bn_L2; split <;> (try unfold Q_Lines_Q_SpotsRead_1bn_L2) <;> rfl) (s_Q_Lines_Q_SpotsRead_1bn_L2 I_Q_Lines_Q_SpotsRead_1bn)
theorem sm_Q_Lines_Q_SpotsRead_1bn (g : C_Q_Lines_Q_SpotsRead_1bn) : Same (SS_Q_Lines_Q_SpotsRead_1bn (@Q_Lines_Q_SpotsRead_1bn_ g)) (abody (E_Q_Lines_Q_SpotsRead_1bn g) Tryz.f63 code_63 3 [0] [.asis, .asis] g.N) := by intro args; unfold SS_Q_Lines_Q_SpotsRead_1bn; split; exact .inr fun R k => (by kernel_rfl); exact .inl fun R k => rfl
theorem ok_Q_Lines_Q_SpotsRead_1bn [Fuel] : Ok 63 (SS_Q_Lines_Q_SpotsRead_1bn (@Q_Lines_Q_SpotsRead_1bn _)) := okF_of std (.cons ok_Q_SpotsRead_1_ba1 (.cons ok_strings_Cut .nil)) ⟨rfl, rfl, by kernel_rfl, rfl, rfl, rfl⟩ (sm_Q_Lines_Q_SpotsRead_1bn I_Q_Lines_Q_SpotsRead_1bn) (cutsL (fun _ => rfl) (.cons lf_Q_Lines_Q_SpotsRead_1bn_L2 .nil) (by kernel_rfl)) Tryz.func63 (by kernel_rfl) (by kernel_rfl)
abbrev T_Q_SpotsRead : Type 1 := List UInt8 → {R : Type} → (List G_Spot → Int → Int → Option R) → Option R
structure C_Q_SpotsRead where
 N : Nat
 Q_SpotsFault : T_Q_SpotsFault
 Q_Lines_Q_SpotsRead_1bn : T_Q_Lines_Q_SpotsRead_1bn
def Q_SpotsRead_ (g : C_Q_SpotsRead) (a1 : List UInt8) {R : Type} (k0 : List G_Spot → Int → Int → Option R) : Option R :=
 (bif (decide ((a1.length : Int) > 200000)) then k0 [] 0 2 else (g.Q_Lines_Q_SpotsRead_1bn a1 (fun r2 r3 r4 => (bif (!r3) then k0 [] r2 9 else (g.Q_SpotsFault r4 (fun r5 => (bif (r5 != 0) then k0 [] 0 r5 else k0 r4 0 0)))))))
noncomputable def I_Q_SpotsRead [Fuel] : C_Q_SpotsRead := ⟨NN, @Q_SpotsFault _, @Q_Lines_Q_SpotsRead_1bn _⟩
noncomputable def Q_SpotsRead [Fuel] : T_Q_SpotsRead := @Q_SpotsRead_ I_Q_SpotsRead
def SS_Q_SpotsRead (g : T_Q_SpotsRead) : Spec A := fun args => match args with | [.d (.str a1)] => fun k => g a1 (fun z0 z1 z2 => k (.tup [.arr 61 z0, .d (.int .i64 z1), .d (.int .i64 z2)]) [.undef]) | _ => fun _ => none
noncomputable def code_32 : Code := (Tryz.f32.body).getD .skip
noncomputable def E_Q_SpotsRead (g : C_Q_SpotsRead) : Env A := mkE [(29, SS_Q_SpotsFault g.Q_SpotsFault), (63, SS_Q_Lines_Q_SpotsRead_1bn g.Q_Lines_Q_SpotsRead_1bn)] [(5, [0]), (15, [1])] [] [] [] [] [] [] [] []
theorem sm_Q_SpotsRead (g : C_Q_SpotsRead) : Same (SS_Q_SpotsRead (@Q_SpotsRead_ g)) (abody (E_Q_SpotsRead g) Tryz.f32 code_32 2 [] [.arr 61, .asis, .asis] g.N) := by intro args; unfold SS_Q_SpotsRead; split; exact .inr fun R k => (by kernel_rfl); exact .inl fun R k => rfl
theorem ok_Q_SpotsRead [Fuel] : Ok 32 (SS_Q_SpotsRead (@Q_SpotsRead _)) := okF_of std (.cons ok_Q_SpotsFault (.cons ok_Q_Lines_Q_SpotsRead_1bn .nil)) ⟨rfl, rfl, by kernel_rfl, rfl, rfl, rfl⟩ (sm_Q_SpotsRead I_Q_SpotsRead) (cuts0 (fun _ => rfl) (by kernel_rfl)) Tryz.func32 (by kernel_rfl) (by kernel_rfl)
abbrev T_slices_Equal__Spot : Type 1 := List G_Spot → List G_Spot → {R : Type} → (Bool → Option R) → Option R
def slices_Equal__Spot_L4 (g : Nat) : Nat → List G_Spot → List G_Spot → Int → Int → {R : Type} → (Bool → Option R) → Option R → Option R
 | 0, _, _, _, _, _, _, _ => none
 | n + 1, v3, v4, v5, v6, _, e0, e1 => (bif (decide (v6 < v5)) then (get_ v3 v6 fun x9 => (get_ v4 v6 fun x10 => (bif (!(eq_G_Spot x9 x10)) then e0 false else slices_Equal__Spot_L4 g n v3 v4 v5 (w64 (v6 + 1)) e0 e1))) else e1)
def slices_Equal__Spot_ (g : Nat) (a1 a2 : List G_Spot) {R : Type} (k0 : Bool → Option R) : Option R :=
 (bif ((a1.length : Int) != (a2.length : Int)) then k0 false else (slices_Equal__Spot_L4 g g a1 a2 (a1.length : Int) 0 (fun e11 => k0 e11) (k0 true)))
noncomputable def slices_Equal__Spot [Fuel] : T_slices_Equal__Spot := @slices_Equal__Spot_ NN
def SS_slices_Equal__Spot (g : T_slices_Equal__Spot) : Spec A := fun args => match args with | [.d (.sl 61 a1), .d (.sl 61 a2)] => fun k => g a1 a2 (fun z0 => k (.d (.bool z0)) [.undef, .undef]) | _ => fun _ => none
def sh_slices_Equal__Spot_L4 : SSt := mkSh 26 0 [(0, .sl 61), (1, .sl 61), (12, .int .i64), (13, .int .i64)] []
def LP_slices_Equal__Spot_L4 (g : Nat) (n : Nat) : LPT A := fun ps => match ps with | [.d (.sl 61 p1), .d (.sl 61 p2), .d (.int .i64 p3), .d (.int .i64 p4)] => fun K => slices_Equal__Spot_L4 g n p1 p2 p3 p4 (fun z0 => K .ret (mkSt 26 0 [(4, .d (.bool z0))] [])) (K (.exit 0) (mkSt 26 0 [] [])) | _ => fun _ => none
noncomputable def code_33 : Code := (Tryz.f33.body).getD .skip
noncomputable def E_slices_Equal__Spot (g : Nat) : Env A := mkE [] [] [(4, ⟨[0, 1, 12, 13], [], [], [], [], [], []⟩)] [(4, ⟨[4], [], [], [], [], [], []⟩)] [(4, pieceOf sh_slices_Equal__Spot_L4 (LP_slices_Equal__Spot_L4 g g))] [] [] [] [] []
theorem ct_slices_Equal__Spot [Fuel] : NatTab (E_slices_Equal__Spot NN).C := ct_of (P := Tryz.prog) (T := T) .nil (by kernel_rfl)
noncomputable def cb_slices_Equal__Spot_L4 : Code := sub [1, 1, 0, 1, 0, 0] code_33
theorem s_slices_Equal__Spot_L4 (g : Nat) (n : Nat) : StepOk (E_slices_Equal__Spot g) g cb_slices_Equal__Spot_L4 sh_slices_Equal__Spot_L4 (LP_slices_Equal__Spot_L4 g) n := by intro ps; unfold LP_slices_Equal__Spot_L4; split; exact .inr fun R K => (by kernel_rfl); exact .inl fun R K => rfl
theorem lf_slices_Equal__Spot_L4 [Fuel] : LoopFine (E_slices_Equal__Spot NN) NN cb_slices_Equal__Spot_L4 := fine_loop sh_slices_Equal__Spot_L4 (LP_slices_Equal__Spot_L4 NN) (by kernel_rfl) ct_slices_Equal__Spot (cuts0 (fun _ => rfl) (by kernel_rfl)) (fun ps R K => by unfold LP_slices_Equal__Spot_L4; split <;> (try unfold slices_Equal__Spot_L4) <;> rfl) (s_slices_Equal__Spot_L4 NN)
theorem sm_slices_Equal__Spot (g : Nat) : Same (SS_slices_Equal__Spot (@slices_Equal__Spot_ g)) (abody (E_slices_Equal__Spot g) Tryz.f33 code_33 0 [] [.asis] g) := by intro args; unfold SS_slices_Equal__Spot; split; exact .inr fun R k => (by kernel_rfl); exact .inl fun R k => rfl
theorem ok_slices_Equal__Spot [Fuel] : Ok 33 (SS_slices_Equal__Spot (@slices_Equal__Spot _)) := okF_of std .nil ⟨rfl, rfl, by kernel_rfl, rfl, rfl, rfl⟩ (sm_slices_Equal__Spot NN) (cutsL (fun _ => rfl) (.cons lf_slices_Equal__Spot_L4 .nil) (by kernel_rfl)) Tryz.func33 (by kernel_rfl) (by kernel_rfl)
abbrev T_kit_IsKey : Type 1 := List UInt8 → {R : Type} → (Bool → Option R) → Option R
structure C_kit_IsKey where
 N : Nat
 strings_IndexByte : T_strings_IndexByte
 strings_Trim : T_strings_Trim
def kit_IsKey_ (g : C_kit_IsKey) (a1 : List UInt8) {R : Type} (k0 : Bool → Option R) : Option R :=
 (bif (!(a1 == [])) then (bif (decide ((a1.length : Int) ≤ 40)) then (at_ a1 0 fun x2 => (g.strings_IndexByte [97, 98, 99, 100, 101, 102, 103, 104, 105, 106, 107, 108, 109, 110, 111, 112, 113, 114, 115, 116, 117, 118, 119, 120, 121, 122] (x2.toNat : Int) (fun r3 => (bif (decide (r3 ≥ 0)) then (g.strings_Trim a1 [97, 98, 99, 100, 101, 102, 103, 104, 105, 106, 107, 108, 109, 110, 111, 112, 113, 114, 115, 116, 117, 118, 119, 120, 121, 122, 48, 49, 50, 51, 52, 53, 54, 55, 56, 57, 45, 95] (fun r4 => k0 (r4 == []))) else k0 false)))) else k0 false) else k0 false)
noncomputable def I_kit_IsKey [Fuel] : C_kit_IsKey := ⟨NN, @strings_IndexByte _, @strings_Trim _⟩
noncomputable def kit_IsKey [Fuel] : T_kit_IsKey := @kit_IsKey_ I_kit_IsKey
def SS_kit_IsKey (g : T_kit_IsKey) : Spec A := fun args => match args with | [.d (.str a1)] => fun k => g a1 (fun z0 => k (.d (.bool z0)) [.undef]) | _ => fun _ => none
noncomputable def code_137 : Code := (Tryz.f137.body).getD .skip
noncomputable def E_kit_IsKey (g : C_kit_IsKey) : Env A := mkE [(178, SS_strings_IndexByte g.strings_IndexByte), (179, SS_strings_Trim g.strings_Trim)] [] [] [] [] [] [] [] [] []
theorem sm_kit_IsKey (g : C_kit_IsKey) : Same (SS_kit_IsKey (@kit_IsKey_ g)) (abody (E_kit_IsKey g) Tryz.f137 code_137 0 [] [.asis] g.N) := by intro args; unfold SS_kit_IsKey; split; exact .inr fun R k => (by kernel_rfl); exact .inl fun R k => rfl
theorem ok_kit_IsKey [Fuel] : Ok 137 (SS_kit_IsKey (@kit_IsKey _)) := okF_of std (.cons ok_strings_IndexByte (.cons ok_strings_Trim .nil)) ⟨rfl, rfl, by kernel_rfl, rfl, rfl, rfl⟩ (sm_kit_IsKey I_kit_IsKey) (cuts0 (fun _ => rfl) (by kernel_rfl)) Tryz.func137 (by kernel_rfl) (by kernel_rfl)
abbrev T_kit_IsMode : Type 1 := Int → {R : Type} → (Bool → Option R) → Option R
structure C_kit_IsMode where
 N : Nat
 kit_Outside : T_kit_Outside
def kit_IsMode_ (g : C_kit_IsMode) (a1 : Int) {R : Type} (k0 : Bool → Option R) : Option R :=
 (g.kit_Outside a1 1 3 (fun r2 => k0 (!r2)))
noncomputable def I_kit_IsMode [Fuel] : C_kit_IsMode := ⟨NN, @kit_Outside _⟩
noncomputable def kit_IsMode [Fuel] : T_kit_IsMode := @kit_IsMode_ I_kit_IsMode
def SS_kit_IsMode (g : T_kit_IsMode) : Spec A := fun args => match args with | [.d (.int .i64 a1)] => fun k => g a1 (fun z0 => k (.d (.bool z0)) [.undef]) | _ => fun _ => none
noncomputable def code_135 : Code := (Tryz.f135.body).getD .skip
noncomputable def E_kit_IsMode (g : C_kit_IsMode) : Env A := mkE [(134, SS_kit_Outside g.kit_Outside)] [] [] [] [] [] [] [] [] []
theorem sm_kit_IsMode (g : C_kit_IsMode) : Same (SS_kit_IsMode (@kit_IsMode_ g)) (abody (E_kit_IsMode g) Tryz.f135 code_135 0 [] [.asis] g.N) := by intro args; unfold SS_kit_IsMode; split; exact .inr fun R k => (by kernel_rfl); exact .inl fun R k => rfl
theorem ok_kit_IsMode [Fuel] : Ok 135 (SS_kit_IsMode (@kit_IsMode _)) := okF_of std (.cons ok_kit_Outside .nil) ⟨rfl, rfl, by kernel_rfl, rfl, rfl, rfl⟩ (sm_kit_IsMode I_kit_IsMode) (cuts0 (fun _ => rfl) (by kernel_rfl)) Tryz.func135 (by kernel_rfl) (by kernel_rfl)
abbrev T_band_modesFault : Type 1 := List Int → {R : Type} → (Int → Option R) → Option R
structure C_band_modesFault where
 N : Nat
 kit_IsMode : T_kit_IsMode
def band_modesFault_L4 (g : C_band_modesFault) : Nat → List Int → List Int → Int → Int → {R : Type} → (Int → Option R) → Option R → Option R
 | 0, _, _, _, _, _, _, _ => none
 | n + 1, v2, v3, v4, v5, _, e0, e1 => (bif (decide (v5 < v4)) then (get_ v3 v5 fun x9 => (g.kit_IsMode x9 (fun r10 => (bif (!r10) then e0 4 else (bif (decide (v5 > 0)) then (get_ v2 (w64 (v5 - 1)) fun x11 => (bif (decide (x9 ≤ x11)) then e0 7 else band_modesFault_L4 g n v2 v3 v4 (w64 (v5 + 1)) e0 e1)) else band_modesFault_L4 g n v2 v3 v4 (w64 (v5 + 1)) e0 e1))))) else e1)
def band_modesFault_ (g : C_band_modesFault) (a1 : List Int) {R : Type} (k0 : Int → Option R) : Option R :=
 (bif ((a1.length : Int) == 0) then k0 8 else (band_modesFault_L4 g g.N a1 a1 (a1.length : Int) 0 (fun e12 => k0 e12) (k0 0)))
noncomputable def I_band_modesFault [Fuel] : C_band_modesFault := ⟨NN, @kit_IsMode _⟩
noncomputable def band_modesFault [Fuel] : T_band_modesFault := @band_modesFault_ I_band_modesFault
def SS_band_modesFault (g : T_band_modesFault) : Spec A := fun args => match args with | [.d (.sl 3 a1)] => fun k => g a1 (fun z0 => k (.d (.int .i64 z0)) [.undef]) | _ => fun _ => none
def sh_band_modesFault_L4 : SSt := mkSh 30 0 [(0, .sl 3), (8, .sl 3), (9, .int .i64), (10, .int .i64)] []
def LP_band_modesFault_L4 (g : C_band_modesFault) (n : Nat) : LPT A := fun ps => match ps with | [.d (.sl 3 p1), .d (.sl 3 p2), .d (.int .i64 p3), .d (.int .i64 p4)] => fun K => band_modesFault_L4 g n p1 p2 p3 p4 (fun z0 => K .ret (mkSt 30 0 [(2, .d (.int .i64 z0))] [])) (K (.exit 0) (mkSt 30 0 [] [])) | _ => fun _ => none
noncomputable def code_196 : Code := (Tryz.f196.body).getD .skip
noncomputable def E_band_modesFault (g : C_band_modesFault) : Env A := mkE [(135, SS_kit_IsMode g.kit_IsMode)] [] [(4, ⟨[0, 8, 9, 10], [], [], [], [], [], []⟩)] [(4, ⟨[2], [], [], [], [], [], []⟩)] [(4, pieceOf sh_band_modesFault_L4 (LP_band_modesFault_L4 g g.N))] [] [] [] [] []
theorem ct_band_modesFault [Fuel] : NatTab (E_band_modesFault I_band_modesFault).C := ct_of (P := Tryz.prog) (T := T) (.cons ok_kit_IsMode .nil) (by kernel_rfl)
noncomputable def cb_band_modesFault_L4 : Code := sub [1, 1, 0, 1, 0, 0] code_196
theorem s_band_modesFault_L4 (g : C_band_modesFault) (n : Nat) : StepOk (E_band_modesFault g) g.N cb_band_modesFault_L4 sh_band_modesFault_L4 (LP_band_modesFault_L4 g) n := by intro ps; unfold LP_band_modesFault_L4; split; exact .inr fun R K => (by kernel_rfl); exact .inl fun R K => rfl
theorem lf_band_modesFault_L4 [Fuel] : LoopFine (E_band_modesFault I_band_modesFault) NN cb_band_modesFault_L4 := fine_loop sh_band_modesFault_L4 (LP_band_modesFault_L4 I_band_modesFault) (by kernel_rfl) ct_band_modesFault (cuts0 (fun _ => rfl) (by kernel_rfl)) (fun ps R K => by unfold LP_band_modesFault_L4; split <;> (try unfold band_modesFault_L4) <;> rfl) (s_band_modesFault_L4 I_band_modesFault)
theorem sm_band_modesFault (g : C_band_modesFault) : Same (SS_band_modesFault (@band_modesFault_ g)) (abody (E_band_modesFault g) Tryz.f196 code_196 0 [] [.asis] g.N) := by intro args; unfold SS_band_modesFault; split; exact .inr fun R k => (by kernel_rfl); exact .inl fun R k => rfl
theorem ok_band_modesFault [Fuel] : Ok 196 (SS_band_modesFault (@band_modesFault _)) := okF_of std (.cons ok_kit_IsMode .nil) ⟨rfl, rfl, by kernel_rfl, rfl, rfl, rfl⟩ (sm_band_modesFault I_band_modesFault) (cutsL (fun _ => rfl) (.cons lf_band_modesFault_L4 .nil) (by kernel_rfl)) Tryz.func196 (by kernel_rfl) (by kernel_rfl)
end Go.Am
