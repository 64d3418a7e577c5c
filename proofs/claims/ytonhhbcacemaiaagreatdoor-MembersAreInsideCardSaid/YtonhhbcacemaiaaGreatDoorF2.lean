/- The functions of the program as Lean functions, each shown to be what the code computes, part 2. No condition: lemmas for the claim. -/
import Derived.Test.YtonhhbcacemaiaaGreatDoorF0
import Derived.Test.YtonhhbcacemaiaaGreatDoorFSh
import Derived.Test.YtonhhbcacemaiaaGreatDoorF1
set_option linter.unusedVariables false
set_option maxRecDepth 100000
namespace Go.Am
open Go Go.Proofs
abbrev T_Q_Square : Type 1 := List UInt8 → {R : Type} → (Bool → Option R) → Option R
structure C_Q_Square where
 N : Nat
 z53z : T_z53z
 Q_only : T_Q_only
def Q_Square_L5 (g : C_Q_Square) : Nat → List UInt8 → Int → Int → List (List UInt8) → {R : Type} → (Bool → Option R) → Option R → Option R
 | 0, _, _, _, _, _, _, _ => none
 | n + 1, v3, v4, v5, v6, _, e0, e1 => (bif (decide (v5 < v4)) then (bif (decide (0 ≤ v5) && (decide (v5 ≤ (w64 (v5 + 1))) && decide ((w64 (v5 + 1)) ≤ (v3.length : Int)))) then (inr v6 v5 (at_ v6 v5 fun x9 => (g.Q_only ((v3.take ((w64 (v5 + 1)) : Int).toNat).drop (v5 : Int).toNat) x9 (fun r10 => (bif (!r10) then e0 false else Q_Square_L5 g n v3 v4 (w64 (v5 + 1)) v6 e0 e1))))) else none) else e1)
def Q_Square_ (g : C_Q_Square) (a1 : List UInt8) {R : Type} (k0 : Bool → Option R) : Option R :=
 (bif (decide (0 ≤ 18) && decide (18 ≤ ([97, 98, 99, 100, 101, 102, 103, 104, 105, 106, 107, 108, 109, 110, 111, 112, 113, 114, 115, 116, 117, 118, 119, 120, 121, 122].length : Int))) then (bif (decide (0 ≤ 18) && decide (18 ≤ ([97, 98, 99, 100, 101, 102, 103, 104, 105, 106, 107, 108, 109, 110, 111, 112, 113, 114, 115, 116, 117, 118, 119, 120, 121, 122].length : Int))) then (bif (decide (0 ≤ 24) && decide (24 ≤ ([97, 98, 99, 100, 101, 102, 103, 104, 105, 106, 107, 108, 109, 110, 111, 112, 113, 114, 115, 116, 117, 118, 119, 120, 121, 122].length : Int))) then (bif (decide (0 ≤ 24) && decide (24 ≤ ([97, 98, 99, 100, 101, 102, 103, 104, 105, 106, 107, 108, 109, 110, 111, 112, 113, 114, 115, 116, 117, 118, 119, 120, 121, 122].length : Int))) then (g.z53z [2, 4, 6] (a1.length : Int) (fun r2 => (bif (!r2) then k0 false else (Q_Square_L5 g g.N a1 (a1.length : Int) 0 [([97, 98, 99, 100, 101, 102, 103, 104, 105, 106, 107, 108, 109, 110, 111, 112, 113, 114, 115, 116, 117, 118, 119, 120, 121, 122].take (18 : Int).toNat), ([97, 98, 99, 100, 101, 102, 103, 104, 105, 106, 107, 108, 109, 110, 111, 112, 113, 114, 115, 116, 117, 118, 119, 120, 121, 122].take (18 : Int).toNat), [48, 49, 50, 51, 52, 53, 54, 55, 56, 57], [48, 49, 50, 51, 52, 53, 54, 55, 56, 57], ([97, 98, 99, 100, 101, 102, 103, 104, 105, 106, 107, 108, 109, 110, 111, 112, 113, 114, 115, 116, 117, 118, 119, 120, 121, 122].take (24 : Int).toNat), ([97, 98, 99, 100, 101, 102, 103, 104, 105, 106, 107, 108, 109, 110, 111, 112, 113, 114, 115, 116, 117, 118, 119, 120, 121, 122].take (24 : Int).toNat)] (fun e11 => k0 e11) (k0 true))))) else none) else none) else none) else none)
noncomputable def I_Q_Square [Fuel] : C_Q_Square := ⟨NN, @z53z _, @Q_only _⟩
noncomputable def Q_Square [Fuel] : T_Q_Square := @Q_Square_ I_Q_Square
def SS_Q_Square (g : T_Q_Square) : Spec A := fun args => match args with | [.d (.str a1)] => fun k => g a1 (fun z0 => k (.d (.bool z0)) [.undef]) | _ => fun _ => none
def sh_Q_Square_L5 : SSt := mkSh 32 2 [(0, .str), (3, .own 9 0), (16, .int .i64), (17, .int .i64)] [(0, .row 9)]
def LP_Q_Square_L5 (g : C_Q_Square) (n : Nat) : LPT A := fun ps => match ps with | [.d (.str p1), .d (.int .i64 p2), .d (.int .i64 p3), .d (.sl 9 p4)] => fun K => Q_Square_L5 g n p1 p2 p3 p4 (fun z0 => K .ret (mkSt 32 2 [(2, .d (.bool z0))] [])) (K (.exit 0) (mkSt 32 2 [] [])) | _ => fun _ => none
noncomputable def code_139 : Code := (Tryz.f139.body).getD .skip
noncomputable def E_Q_Square (g : C_Q_Square) : Env A := mkE [(111, SS_z53z g.z53z), (114, SS_Q_only g.Q_only)] [(9, [0]), (10, [1])] [(5, ⟨[0, 3, 16, 17], [], [0], [], [], []⟩)] [(5, ⟨[2], [], [], [], [], []⟩)] [(5, pieceOf sh_Q_Square_L5 (LP_Q_Square_L5 g g.N))] [] [] [] [] []
theorem ct_Q_Square [Fuel] : NatTab (E_Q_Square I_Q_Square).C := ct_of (P := Tryz.prog) (T := T) (.cons ok_z53z (.cons ok_Q_only .nil)) (by kernel_rfl)
noncomputable def cb_Q_Square_L5 : Code := sub [1, 1, 1, 0, 1, 0, 0] code_139
theorem s_Q_Square_L5 (g : C_Q_Square) (n : Nat) : StepOk (E_Q_Square g) g.N cb_Q_Square_L5 sh_Q_Square_L5 (LP_Q_Square_L5 g) n := by intro ps; unfold LP_Q_Square_L5; split; exact .inr fun R K => (by kernel_rfl); exact .inl fun R K => rfl
theorem lf_Q_Square_L5 [Fuel] : LoopFine (E_Q_Square I_Q_Square) NN cb_Q_Square_L5 := fine_loop sh_Q_Square_L5 (LP_Q_Square_L5 I_Q_Square) (by kernel_rfl) ct_Q_Square (cuts0 (fun _ => rfl) (by kernel_rfl)) (fun ps R K => by unfold LP_Q_Square_L5; split <;> (try unfold Q_Square_L5) <;> rfl) (s_Q_Square_L5 I_Q_Square)
theorem sm_Q_Square (g : C_Q_Square) : Same (SS_Q_Square (@Q_Square_ g)) (abody (E_Q_Square g) Tryz.f139 code_139 2 [] [.asis] g.N) := by intro args; unfold SS_Q_Square; split; exact .inr fun R k => (by kernel_rfl); exact .inl fun R k => rfl
theorem ok_Q_Square [Fuel] : Ok 139 (SS_Q_Square (@Q_Square _)) := okF_of std (.cons ok_z53z (.cons ok_Q_only .nil)) ⟨rfl, rfl, by kernel_rfl, rfl, rfl, rfl⟩ (sm_Q_Square I_Q_Square) (cutsL (fun _ => rfl) (.cons lf_Q_Square_L5 .nil) (by kernel_rfl)) Tryz.func139 (by kernel_rfl) (by kernel_rfl)
abbrev T_z29z : Type 1 := List G_Club → {R : Type} → (Int → Option R) → Option R
structure C_z29z where
 N : Nat
 Q_Key : T_Q_Key
 Q_Square : T_Q_Square
def z29z_L15 (g : C_z29z) : Nat → List UInt8 → List G_Club → Int → Int → List (List UInt8) → Int → Int → G_Club → {R : Type} → (Int → List UInt8 → List G_Club → Int → Int → Option R) → (List UInt8 → List G_Club → Int → Int → Option R) → Option R
 | 0, _, _, _, _, _, _, _, _, _, _, _ => none
 | n + 1, v33, v34, v35, v36, v37, v38, v39, v40, _, e0, e1 => (bif (decide (v39 < v38)) then (get_ v37 v39 fun x44 => (g.Q_Square x44 (fun r45 => (bif (!r45) then e0 3 v33 v34 v35 v36 else (bif (decide (v39 > 0)) then (get_ v40.f_Squares (w64 (v39 - 1)) fun x46 => (bif (Op.bytesLess x44 x46 || x44 == x46) then e0 7 v33 v34 v35 v36 else z29z_L15 g n v33 v34 v35 v36 v37 v38 (w64 (v39 + 1)) v40 e0 e1)) else z29z_L15 g n v33 v34 v35 v36 v37 v38 (w64 (v39 + 1)) v40 e0 e1))))) else e1 v33 v34 v35 v36)
def z29z_L5 (g : C_z29z) : Nat → List UInt8 → List G_Club → Int → Int → {R : Type} → (Int → Option R) → Option R → Option R
 | 0, _, _, _, _, _, _, _ => none
 | n + 1, v2, v3, v4, v5, _, e0, e1 => (bif (decide (v5 < v4)) then (get_ v3 v5 fun x31 => (g.Q_Key x31.f_Key (fun r32 => (bif (!r32) then e0 5 else (bif (Op.bytesLess x31.f_Key v2 || x31.f_Key == v2) then e0 7 else (bif (decide ((x31.f_Squares.length : Int) > 100)) then e0 2 else (z29z_L15 g g.N x31.f_Key v3 v4 v5 x31.f_Squares (x31.f_Squares.length : Int) 0 x31 (fun e47 e48 e49 e50 e51 => e0 e47) (fun e52 e53 e54 e55 => z29z_L5 g n e52 e53 e54 (w64 (e55 + 1)) e0 e1)))))))) else e1)
def z29z_ (g : C_z29z) (a1 : List G_Club) {R : Type} (k0 : Int → Option R) : Option R :=
 (bif (decide ((a1.length : Int) > 200)) then k0 2 else (z29z_L5 g g.N [] a1 (a1.length : Int) 0 (fun e56 => k0 e56) (k0 0)))
noncomputable def I_z29z [Fuel] : C_z29z := ⟨NN, @Q_Key _, @Q_Square _⟩
noncomputable def z29z [Fuel] : T_z29z := @z29z_ I_z29z
def SS_z29z (g : T_z29z) : Spec A := fun args => match args with | [.d (.sl 81 a1)] => fun k => g a1 (fun z0 => k (.d (.int .i64 z0)) [.undef]) | _ => fun _ => none
def sh_z29z_L15 : SSt := mkSh 59 1 [(3, .str), (5, .ptr 0 0), (11, .sl 81), (12, .int .i64), (13, .int .i64), (35, .sl 9), (36, .int .i64), (37, .int .i64)] [(0, .box [.str, .sl 9])]
def LP_z29z_L15 (g : C_z29z) (n : Nat) : LPT A := fun ps => match ps with | [.d (.str p1), .d (.sl 81 p2), .d (.int .i64 p3), .d (.int .i64 p4), .d (.sl 9 p5), .d (.int .i64 p6), .d (.int .i64 p7), .d (.str p8), .d (.sl 9 p9)] => fun K => z29z_L15 g n p1 p2 p3 p4 p5 p6 p7 ⟨p8, p9⟩ (fun z0 z1 z2 z3 z4 => K .ret (mkSt 59 1 [(2, .d (.int .i64 z0)), (3, .d (.str z1)), (11, .d (.sl 81 z2)), (12, .d (.int .i64 z3)), (13, .d (.int .i64 z4))] [])) (fun z0 z1 z2 z3 => K (.exit 3) (mkSt 59 1 [(3, .d (.str z0)), (11, .d (.sl 81 z1)), (12, .d (.int .i64 z2)), (13, .d (.int .i64 z3))] [])) | _ => fun _ => none
def sh_z29z_L5 : SSt := mkSh 59 1 [(3, .str), (11, .sl 81), (12, .int .i64), (13, .int .i64)] []
def LP_z29z_L5 (g : C_z29z) (n : Nat) : LPT A := fun ps => match ps with | [.d (.str p1), .d (.sl 81 p2), .d (.int .i64 p3), .d (.int .i64 p4)] => fun K => z29z_L5 g n p1 p2 p3 p4 (fun z0 => K .ret (mkSt 59 1 [(2, .d (.int .i64 z0))] [])) (K (.exit 0) (mkSt 59 1 [] [])) | _ => fun _ => none
noncomputable def code_85 : Code := (Tryz.f85.body).getD .skip
noncomputable def E_z29z (g : C_z29z) : Env A := mkE [(53, SS_Q_Key g.Q_Key), (139, SS_Q_Square g.Q_Square)] [(5, [0])] [(15, ⟨[3, 5, 11, 12, 13, 35, 36, 37], [], [0], [], [], []⟩), (5, ⟨[3, 11, 12, 13], [], [], [], [], []⟩)] [(15, ⟨[2, 3, 11, 12, 13], [], [], [], [], []⟩), (5, ⟨[2], [], [], [], [], []⟩)] [(15, pieceOf sh_z29z_L15 (LP_z29z_L15 g g.N)), (5, pieceOf sh_z29z_L5 (LP_z29z_L5 g g.N))] [] [] [] [] []
theorem ct_z29z [Fuel] : NatTab (E_z29z I_z29z).C := ct_of (P := Tryz.prog) (T := T) (.cons ok_Q_Key (.cons ok_Q_Square .nil)) (by kernel_rfl)
noncomputable def cb_z29z_L15 : Code := sub [1, 1, 1, 0, 1, 0, 0, 1, 1, 0, 0, 1, 1, 1, 1, 0, 0] code_85
theorem s_z29z_L15 (g : C_z29z) (n : Nat) : StepOk (E_z29z g) g.N cb_z29z_L15 sh_z29z_L15 (LP_z29z_L15 g) n := by intro ps; unfold LP_z29z_L15; split; exact .inr fun R K => (by kernel_rfl); exact .inl fun R K => rfl
theorem lf_z29z_L15 [Fuel] : LoopFine (E_z29z I_z29z) NN cb_z29z_L15 := fine_loop sh_z29z_L15 (LP_z29z_L15 I_z29z) (by kernel_rfl) ct_z29z (cuts0 (fun _ => rfl) (by kernel_rfl)) (fun ps R K => by unfold LP_z29z_L15; split <;> (try unfold z29z_L15) <;> rfl) (s_z29z_L15 I_z29z)
noncomputable def cb_z29z_L5 : Code := sub [1, 1, 1, 0, 1, 0, 0] code_85
theorem s_z29z_L5 (g : C_z29z) (n : Nat) : StepOk (E_z29z g) g.N cb_z29z_L5 sh_z29z_L5 (LP_z29z_L5 g) n := by intro ps; unfold LP_z29z_L5; split; exact .inr fun R K => (by kernel_rfl); exact .inl fun R K => rfl
theorem lf_z29z_L5 [Fuel] : LoopFine (E_z29z I_z29z) NN cb_z29z_L5 := fine_loop sh_z29z_L5 (LP_z29z_L5 I_z29z) (by kernel_rfl) ct_z29z (cutsL (fun _ => rfl) (.cons lf_z29z_L15 .nil) (by kernel_rfl)) (fun ps R K => by unfold LP_z29z_L5; split <;> (try unfold z29z_L5) <;> rfl) (s_z29z_L5 I_z29z)
theorem sm_z29z (g : C_z29z) : Same (SS_z29z (@z29z_ g)) (abody (E_z29z g) Tryz.f85 code_85 1 [] [.asis] g.N) := by intro args; unfold SS_z29z; split; exact .inr fun R k => (by kernel_rfl); exact .inl fun R k => rfl
theorem ok_z29z [Fuel] : Ok 85 (SS_z29z (@z29z _)) := okF_of std (.cons ok_Q_Key (.cons ok_Q_Square .nil)) ⟨rfl, rfl, by kernel_rfl, rfl, rfl, rfl⟩ (sm_z29z I_z29z) (cutsL (fun _ => rfl) (.cons lf_z29z_L15 (.cons lf_z29z_L5 .nil)) (by kernel_rfl)) Tryz.func85 (by kernel_rfl) (by kernel_rfl)
abbrev T_stringslite_Index : Type 1 := List UInt8 → List UInt8 → {R : Type} → (Int → Option R) → Option R
def stringslite_Index [Fuel] : T_stringslite_Index := @X_ix1
def SS_stringslite_Index (g : T_stringslite_Index) : Spec A := SSX_ix1 g
theorem ok_stringslite_Index [Fuel] : Ok 231 (SS_stringslite_Index (@stringslite_Index _)) := ⟨ssx_ix1_sound (ix1_sound (Any.stringslite_Index_one Tryz.lays219)), ssx_ix1_nat, enters_of (fn := Tryz.f231) Tryz.func231 (by kernel_rfl) (by kernel_rfl)⟩
abbrev T_z83z : Type 1 := List UInt8 → List UInt8 → {R : Type} → (List UInt8 → List UInt8 → Bool → Option R) → Option R
structure C_z83z where
 N : Nat
 stringslite_Index : T_stringslite_Index
def z83z_ (g : C_z83z) (a1 a2 : List UInt8) {R : Type} (k0 : List UInt8 → List UInt8 → Bool → Option R) : Option R :=
 (g.stringslite_Index a1 a2 (fun r3 => (bif (decide (r3 ≥ 0)) then (bif (decide (0 ≤ r3) && decide (r3 ≤ (a1.length : Int))) then (bif (decide (0 ≤ (w64 (r3 + (a2.length : Int)))) && decide ((w64 (r3 + (a2.length : Int))) ≤ (a1.length : Int))) then k0 (a1.take (r3 : Int).toNat) (a1.drop ((w64 (r3 + (a2.length : Int))) : Int).toNat) true else none) else none) else k0 a1 [] false)))
noncomputable def I_z83z [Fuel] : C_z83z := ⟨NN, @stringslite_Index _⟩
noncomputable def z83z [Fuel] : T_z83z := @z83z_ I_z83z
def SS_z83z (g : T_z83z) : Spec A := fun args => match args with | [.d (.str a1), .d (.str a2)] => fun k => g a1 a2 (fun z0 z1 z2 => k (.tup [.d (.str z0), .d (.str z1), .d (.bool z2)]) [.undef, .undef]) | _ => fun _ => none
noncomputable def code_193 : Code := (Tryz.f193.body).getD .skip
noncomputable def E_z83z (g : C_z83z) : Env A := mkE [(231, SS_stringslite_Index g.stringslite_Index)] [] [] [] [] [] [] [] [] []
theorem sm_z83z (g : C_z83z) : Same (SS_z83z (@z83z_ g)) (abody (E_z83z g) Tryz.f193 code_193 0 [] [.asis, .asis, .asis] g.N) := by intro args; unfold SS_z83z; split; exact .inr fun R k => (by kernel_rfl); exact .inl fun R k => rfl
theorem ok_z83z [Fuel] : Ok 193 (SS_z83z (@z83z _)) := okF_of std (.cons ok_stringslite_Index .nil) ⟨rfl, rfl, by kernel_rfl, rfl, rfl, rfl⟩ (sm_z83z I_z83z) (cuts0 (fun _ => rfl) (by kernel_rfl)) Tryz.func193 (by kernel_rfl) (by kernel_rfl)
abbrev T_z86z : Type 1 := List UInt8 → List UInt8 → {R : Type} → (List UInt8 → List UInt8 → Bool → Option R) → Option R
structure C_z86z where
 N : Nat
 z83z : T_z83z
def z86z_ (g : C_z86z) (a1 a2 : List UInt8) {R : Type} (k0 : List UInt8 → List UInt8 → Bool → Option R) : Option R :=
 (g.z83z a1 a2 (fun r3 r4 r5 => k0 r3 r4 r5))
noncomputable def I_z86z [Fuel] : C_z86z := ⟨NN, @z83z _⟩
noncomputable def z86z [Fuel] : T_z86z := @z86z_ I_z86z
def SS_z86z (g : T_z86z) : Spec A := fun args => match args with | [.d (.str a1), .d (.str a2)] => fun k => g a1 a2 (fun z0 z1 z2 => k (.tup [.d (.str z0), .d (.str z1), .d (.bool z2)]) [.undef, .undef]) | _ => fun _ => none
noncomputable def code_131 : Code := (Tryz.f131.body).getD .skip
noncomputable def E_z86z (g : C_z86z) : Env A := mkE [(193, SS_z83z g.z83z)] [] [] [] [] [] [] [] [] []
theorem sm_z86z (g : C_z86z) : Same (SS_z86z (@z86z_ g)) (abody (E_z86z g) Tryz.f131 code_131 0 [] [.asis, .asis, .asis] g.N) := by intro args; unfold SS_z86z; split; exact .inr fun R k => (by kernel_rfl); exact .inl fun R k => rfl
theorem ok_z86z [Fuel] : Ok 131 (SS_z86z (@z86z _)) := okF_of std (.cons ok_z83z .nil) ⟨rfl, rfl, by kernel_rfl, rfl, rfl, rfl⟩ (sm_z86z I_z86z) (cuts0 (fun _ => rfl) (by kernel_rfl)) Tryz.func131 (by kernel_rfl) (by kernel_rfl)
abbrev T_strings_IndexRune : Type 1 := List UInt8 → Int → {R : Type} → (Int → Option R) → Option R
def strings_IndexRune [Fuel] : T_strings_IndexRune := @X_ixr
def SS_strings_IndexRune (g : T_strings_IndexRune) : Spec A := SSX_ixr g
theorem ok_strings_IndexRune [Fuel] : Ok 232 (SS_strings_IndexRune (@strings_IndexRune _)) := ⟨ssx_ixr_sound (ixr_sound (fun s r w h0 h1 => Any.strings_IndexRune_ascii Tryz.lays152 s r w h0 h1)), ssx_ixr_nat, enters_of (fn := Tryz.f232) Tryz.func232 (by kernel_rfl) (by kernel_rfl)⟩
abbrev T_z71z : Type 1 := Int → {R : Type} → (Bool → Option R) → Option R
def z71z_ (g : Nat) (a1 : Int) {R : Type} (k0 : Bool → Option R) : Option R :=
 k0 (decide (a1 > 8))
noncomputable def z71z [Fuel] : T_z71z := @z71z_ NN
def SS_z71z (g : T_z71z) : Spec A := fun args => match args with | [.d (.int .i64 a1)] => fun k => g a1 (fun z0 => k (.d (.bool z0)) [.undef]) | _ => fun _ => none
noncomputable def code_233 : Code := (Tryz.f233.body).getD .skip
noncomputable def E_z71z (g : Nat) : Env A := mkE [] [] [] [] [] [] [] [] [] []
theorem sm_z71z (g : Nat) : Same (SS_z71z (@z71z_ g)) (abody (E_z71z g) Tryz.f233 code_233 0 [] [.asis] g) := by intro args; unfold SS_z71z; split; exact .inr fun R k => (by kernel_rfl); exact .inl fun R k => rfl
theorem ok_z71z [Fuel] : Ok 233 (SS_z71z (@z71z _)) := okF_of std .nil ⟨rfl, rfl, by kernel_rfl, rfl, rfl, rfl⟩ (sm_z71z NN) (cuts0 (fun _ => rfl) (by kernel_rfl)) Tryz.func233 (by kernel_rfl) (by kernel_rfl)
abbrev T_z75z : Type 1 := List UInt8 → {R : Type} → Option R
def z75z_ (g : Nat) (a1 : List UInt8) {R : Type}  : Option R :=
 none
noncomputable def z75z [Fuel] : T_z75z := @z75z_ NN
def SS_z75z (g : T_z75z) : Spec A := fun args => match args with | [.d (.str a1)] => fun k => g a1 | _ => fun _ => none
noncomputable def code_155 : Code := (Tryz.f155.body).getD .skip
noncomputable def E_z75z (g : Nat) : Env A := mkE [] [] [] [] [] [] [] [] [] []
noncomputable def cb_z75z_L2 : Code := sub [1, 0, 1, 0, 0] code_155
theorem lf_z75z_L2 [Fuel] : LoopFine (E_z75z NN) NN cb_z75z_L2 := no_loop (by kernel_rfl)
theorem sm_z75z (g : Nat) : Same (SS_z75z (@z75z_ g)) (abody (E_z75z g) Tryz.f155 code_155 0 [] [.asis, .asis] g) := by intro args; unfold SS_z75z; split; exact .inr fun R k => (by kernel_rfl); exact .inl fun R k => rfl
theorem ok_z75z [Fuel] : Ok 155 (SS_z75z (@z75z _)) := okF_of std .nil ⟨rfl, rfl, by kernel_rfl, rfl, rfl, rfl⟩ (sm_z75z NN) (cutsL (fun _ => rfl) (.cons lf_z75z_L2 .nil) (by kernel_rfl)) Tryz.func155 (by kernel_rfl) (by kernel_rfl)
abbrev T_z94z : Type 1 := Int → {R : Type} → Option R
def z94z_ (g : Nat) (a1 : Int) {R : Type}  : Option R :=
 none
noncomputable def z94z [Fuel] : T_z94z := @z94z_ NN
def SS_z94z (g : T_z94z) : Spec A := fun args => match args with | [.d (.int .u8 a1)] => fun k => g a1 | _ => fun _ => none
noncomputable def code_252 : Code := (Tryz.f252.body).getD .skip
noncomputable def E_z94z (g : Nat) : Env A := mkE [] [] [] [] [] [] [] [] [] []
theorem sm_z94z (g : Nat) : Same (SS_z94z (@z94z_ g)) (abody (E_z94z g) Tryz.f252 code_252 0 [] [.asis] g) := by intro args; unfold SS_z94z; split; exact .inr fun R k => (by kernel_rfl); exact .inl fun R k => rfl
theorem ok_z94z [Fuel] : Ok 252 (SS_z94z (@z94z _)) := okF_of std .nil ⟨rfl, rfl, by kernel_rfl, rfl, rfl, rfl⟩ (sm_z94z NN) (cuts0 (fun _ => rfl) (by kernel_rfl)) Tryz.func252 (by kernel_rfl) (by kernel_rfl)
abbrev T_z67z : Type 1 := List UInt8 → {R : Type} → (Int → Int → Option R) → Option R
def z67z_ (g : Nat) (a1 : List UInt8) {R : Type} (k0 : Int → Int → Option R) : Option R :=
 (bif (decide ((a1.length : Int) < 1)) then k0 65533 0 else (at_ a1 0 fun x2 => none))
noncomputable def z67z [Fuel] : T_z67z := @z67z_ NN
def SS_z67z (g : T_z67z) : Spec A := fun args => match args with | [.d (.str a1)] => fun k => g a1 (fun z0 z1 => k (.tup [.d (.int .i32 z0), .d (.int .i64 z1)]) [.undef]) | _ => fun _ => none
noncomputable def code_251 : Code := (Tryz.f251.body).getD .skip
noncomputable def E_z67z (g : Nat) : Env A := mkE [] [] [] [] [] [] [] [] [] []
theorem sm_z67z (g : Nat) : Same (SS_z67z (@z67z_ g)) (abody (E_z67z g) Tryz.f251 code_251 0 [] [.asis, .asis] g) := by intro args; unfold SS_z67z; split; exact .inr fun R k => (by kernel_rfl); exact .inl fun R k => rfl
theorem ok_z67z [Fuel] : Ok 251 (SS_z67z (@z67z _)) := okF_of std .nil ⟨rfl, rfl, by kernel_rfl, rfl, rfl, rfl⟩ (sm_z67z NN) (cuts0 (fun _ => rfl) (by kernel_rfl)) Tryz.func251 (by kernel_rfl) (by kernel_rfl)
abbrev T_z63z : Type 1 := List UInt8 → {R : Type} → (Int → Int → Option R) → Option R
structure C_z63z where
 N : Nat
 z67z : T_z67z
def z63z_ (g : C_z63z) (a1 : List UInt8) {R : Type} (k0 : Int → Int → Option R) : Option R :=
 (bif (!(a1 == [])) then (at_ a1 0 fun x2 => (bif (decide ((x2.toNat : Int) < 128)) then (at_ a1 0 fun x3 => k0 (IntKind.i32.wrap (x3.toNat : Int)) 1) else (g.z67z a1 (fun r4 r5 => k0 r4 r5)))) else (g.z67z a1 (fun r6 r7 => k0 r6 r7)))
noncomputable def I_z63z [Fuel] : C_z63z := ⟨NN, @z67z _⟩
noncomputable def z63z [Fuel] : T_z63z := @z63z_ I_z63z
def SS_z63z (g : T_z63z) : Spec A := fun args => match args with | [.d (.str a1)] => fun k => g a1 (fun z0 z1 => k (.tup [.d (.int .i32 z0), .d (.int .i64 z1)]) [.undef]) | _ => fun _ => none
noncomputable def code_212 : Code := (Tryz.f212.body).getD .skip
noncomputable def E_z63z (g : C_z63z) : Env A := mkE [(251, SS_z67z g.z67z)] [] [] [] [] [] [] [] [] []
theorem sm_z63z (g : C_z63z) : Same (SS_z63z (@z63z_ g)) (abody (E_z63z g) Tryz.f212 code_212 0 [] [.asis, .asis] g.N) := by intro args; unfold SS_z63z; split; exact .inr fun R k => (by kernel_rfl); exact .inl fun R k => rfl
theorem ok_z63z [Fuel] : Ok 212 (SS_z63z (@z63z _)) := okF_of std (.cons ok_z67z .nil) ⟨rfl, rfl, by kernel_rfl, rfl, rfl, rfl⟩ (sm_z63z I_z63z) (cuts0 (fun _ => rfl) (by kernel_rfl)) Tryz.func212 (by kernel_rfl) (by kernel_rfl)
abbrev T_z20z : Type 1 := List UInt8 → {R : Type} → (Int → Int → Option R) → Option R
structure C_z20z where
 N : Nat
 z63z : T_z63z
 z94z : T_z94z
def z20z_L10 (g : C_z20z) : Nat → List UInt8 → Int → Int → Int → {R : Type} → (List UInt8 → Int → Int → Option R) → Option R
 | 0, _, _, _, _, _, _ => none
 | n + 1, v3, v4, v5, v6, _, e0 => (bif (decide (v5 ≥ v6)) then (get_ v3 v5 fun x8 => (g.z94z (x8.toNat : Int))) else e0 v3 v4 v5)
def z20z_ (g : C_z20z) (a1 : List UInt8) {R : Type} (k0 : Int → Int → Option R) : Option R :=
 (bif ((a1.length : Int) == 0) then k0 65533 0 else (get_ a1 (w64 ((a1.length : Int) - 1)) fun x2 => (bif (decide ((IntKind.i32.wrap (x2.toNat : Int)) < 128)) then k0 (IntKind.i32.wrap (x2.toNat : Int)) 1 else (z20z_L10 g g.N a1 (a1.length : Int) (w64 ((w64 ((a1.length : Int) - 1)) - 1)) (if 0 > (w64 ((a1.length : Int) - 4)) then 0 else (w64 ((a1.length : Int) - 4))) (fun e9 e10 e11 => (bif (decide (e11 < 0)) then (bif (decide (0 ≤ 0) && (decide (0 ≤ e10) && decide (e10 ≤ (e9.length : Int)))) then (g.z63z ((e9.take (e10 : Int).toNat).drop (0 : Int).toNat) (fun r12 r13 => (bif ((w64 (0 + r13)) != e10) then k0 65533 1 else k0 r12 r13))) else none) else (bif (decide (0 ≤ e11) && (decide (e11 ≤ e10) && decide (e10 ≤ (e9.length : Int)))) then (g.z63z ((e9.take (e10 : Int).toNat).drop (e11 : Int).toNat) (fun r14 r15 => (bif ((w64 (e11 + r15)) != e10) then k0 65533 1 else k0 r14 r15))) else none)))))))
noncomputable def I_z20z [Fuel] : C_z20z := ⟨NN, @z63z _, @z94z _⟩
noncomputable def z20z [Fuel] : T_z20z := @z20z_ I_z20z
def SS_z20z (g : T_z20z) : Spec A := fun args => match args with | [.d (.str a1)] => fun k => g a1 (fun z0 z1 => k (.tup [.d (.int .i32 z0), .d (.int .i64 z1)]) [.undef]) | _ => fun _ => none
def sh_z20z_L10 : SSt := mkSh 51 0 [(0, .str), (4, .int .i64), (5, .int .i64), (6, .int .i64)] []
def LP_z20z_L10 (g : C_z20z) (n : Nat) : LPT A := fun ps => match ps with | [.d (.str p1), .d (.int .i64 p2), .d (.int .i64 p3), .d (.int .i64 p4)] => fun K => z20z_L10 g n p1 p2 p3 p4 (fun z0 z1 z2 => K (.exit 0) (mkSt 51 0 [(0, .d (.str z0)), (4, .d (.int .i64 z1)), (5, .d (.int .i64 z2))] [])) | _ => fun _ => none
noncomputable def code_214 : Code := (Tryz.f214.body).getD .skip
noncomputable def E_z20z (g : C_z20z) : Env A := mkE [(212, SS_z63z g.z63z), (252, SS_z94z g.z94z)] [] [(10, ⟨[0, 4, 5, 6], [], [], [], [], []⟩)] [(10, ⟨[0, 4, 5], [], [], [], [], []⟩)] [(10, pieceOf sh_z20z_L10 (LP_z20z_L10 g g.N))] [] [] [] [] []
theorem ct_z20z [Fuel] : NatTab (E_z20z I_z20z).C := ct_of (P := Tryz.prog) (T := T) (.cons ok_z63z (.cons ok_z94z .nil)) (by kernel_rfl)
noncomputable def cb_z20z_L10 : Code := sub [1, 1, 1, 1, 1, 1, 1, 0, 1, 0, 0] code_214
theorem s_z20z_L10 (g : C_z20z) (n : Nat) : StepOk (E_z20z g) g.N cb_z20z_L10 sh_z20z_L10 (LP_z20z_L10 g) n := by intro ps; unfold LP_z20z_L10; split; exact .inr fun R K => (by kernel_rfl); exact .inl fun R K => rfl
theorem lf_z20z_L10 [Fuel] : LoopFine (E_z20z I_z20z) NN cb_z20z_L10 := fine_loop sh_z20z_L10 (LP_z20z_L10 I_z20z) (by kernel_rfl) ct_z20z (cuts0 (fun _ => rfl) (by kernel_rfl)) (fun ps R K => by unfold LP_z20z_L10; split <;> (try unfold z20z_L10) <;> rfl) (s_z20z_L10 I_z20z)
theorem sm_z20z (g : C_z20z) : Same (SS_z20z (@z20z_ g)) (abody (E_z20z g) Tryz.f214 code_214 0 [] [.asis, .asis] g.N) := by intro args; unfold SS_z20z; split; exact .inr fun R k => (by kernel_rfl); exact .inl fun R k => rfl
theorem ok_z20z [Fuel] : Ok 214 (SS_z20z (@z20z _)) := okF_of std (.cons ok_z63z (.cons ok_z94z .nil)) ⟨rfl, rfl, by kernel_rfl, rfl, rfl, rfl⟩ (sm_z20z I_z20z) (cutsL (fun _ => rfl) (.cons lf_z20z_L10 .nil) (by kernel_rfl)) Tryz.func214 (by kernel_rfl) (by kernel_rfl)
abbrev T_z15z : Type 1 := List UInt8 → List UInt8 → {R : Type} → (Int → Option R) → Option R
structure C_z15z where
 N : Nat
 z75z : T_z75z
 z20z : T_z20z
 strings_IndexRune : T_strings_IndexRune
 z71z : T_z71z
def z15z_L24 (g : C_z15z) : Nat → List UInt8 → Int → Int → {R : Type} → (Int → Option R) → Option R → Option R
 | 0, _, _, _, _, _, _ => none
 | n + 1, v8, v9, v10, _, e0, e1 => (bif (decide (v10 > 0)) then (bif (decide (0 ≤ v10) && decide (v10 ≤ (v8.length : Int))) then (g.z20z (v8.take (v10 : Int).toNat) (fun r13 r14 => (bif (v9 == r13) then e0 (w64 (v10 - r14)) else z15z_L24 g n v8 v9 (w64 (v10 - r14)) e0 e1))) else none) else e1)
def z15z_L31 (g : C_z15z) : Nat → List UInt8 → List UInt8 → Int → {R : Type} → (Int → Option R) → Option R → Option R
 | 0, _, _, _, _, _, _ => none
 | n + 1, v17, v18, v19, _, e0, e1 => (bif (decide (v19 > 0)) then (bif (decide (0 ≤ v19) && decide (v19 ≤ (v17.length : Int))) then (g.z20z (v17.take (v19 : Int).toNat) (fun r23 r24 => (g.strings_IndexRune v18 r23 (fun r25 => (bif (decide (r25 ≥ 0)) then e0 (w64 (v19 - r24)) else z15z_L31 g n v17 v18 (w64 (v19 - r24)) e0 e1))))) else none) else e1)
def z15z_ (g : C_z15z) (a1 a2 : List UInt8) {R : Type} (k0 : Int → Option R) : Option R :=
 (bif (a2 == []) then k0 (-1) else (bif ((a1.length : Int) == 1) then (at_ a1 0 fun x3 => (bif (decide ((IntKind.i32.wrap (x3.toNat : Int)) ≥ 128)) then (g.strings_IndexRune a2 65533 (fun r4 => (bif (decide (r4 ≥ 0)) then k0 0 else k0 (-1)))) else (g.strings_IndexRune a2 (IntKind.i32.wrap (x3.toNat : Int)) (fun r5 => (bif (decide (r5 ≥ 0)) then k0 0 else k0 (-1)))))) else (g.z71z (a1.length : Int) (fun r6 => (bif r6 then (g.z75z a2) else (bif ((a2.length : Int) == 1) then (at_ a2 0 fun x7 => (bif (decide ((IntKind.i32.wrap (x7.toNat : Int)) ≥ 128)) then (z15z_L24 g g.N a1 65533 (a1.length : Int) (fun e15 => k0 e15) (k0 (-1))) else (z15z_L24 g g.N a1 (IntKind.i32.wrap (x7.toNat : Int)) (a1.length : Int) (fun e16 => k0 e16) (k0 (-1))))) else (z15z_L31 g g.N a1 a2 (a1.length : Int) (fun e26 => k0 e26) (k0 (-1)))))))))
noncomputable def I_z15z [Fuel] : C_z15z := ⟨NN, @z75z _, @z20z _, @strings_IndexRune _, @z71z _⟩
noncomputable def z15z [Fuel] : T_z15z := @z15z_ I_z15z
def SS_z15z (g : T_z15z) : Spec A := fun args => match args with | [.d (.str a1), .d (.str a2)] => fun k => g a1 a2 (fun z0 => k (.d (.int .i64 z0)) [.undef, .undef]) | _ => fun _ => none
def sh_z15z_L24 : SSt := mkSh 96 0 [(0, .str), (9, .int .i32), (10, .int .i64)] []
def LP_z15z_L24 (g : C_z15z) (n : Nat) : LPT A := fun ps => match ps with | [.d (.str p1), .d (.int .i32 p2), .d (.int .i64 p3)] => fun K => z15z_L24 g n p1 p2 p3 (fun z0 => K .ret (mkSt 96 0 [(4, .d (.int .i64 z0))] [])) (K (.exit 2) (mkSt 96 0 [] [])) | _ => fun _ => none
def sh_z15z_L31 : SSt := mkSh 96 0 [(0, .str), (1, .str), (13, .int .i64)] []
def LP_z15z_L31 (g : C_z15z) (n : Nat) : LPT A := fun ps => match ps with | [.d (.str p1), .d (.str p2), .d (.int .i64 p3)] => fun K => z15z_L31 g n p1 p2 p3 (fun z0 => K .ret (mkSt 96 0 [(4, .d (.int .i64 z0))] [])) (K (.exit 4) (mkSt 96 0 [] [])) | _ => fun _ => none
noncomputable def code_194 : Code := (Tryz.f194.body).getD .skip
noncomputable def E_z15z (g : C_z15z) : Env A := mkE [(155, SS_z75z g.z75z), (214, SS_z20z g.z20z), (232, SS_strings_IndexRune g.strings_IndexRune), (233, SS_z71z g.z71z)] [] [(24, ⟨[0, 9, 10], [], [], [], [], []⟩), (31, ⟨[0, 1, 13], [], [], [], [], []⟩)] [(24, ⟨[4], [], [], [], [], []⟩), (31, ⟨[4], [], [], [], [], []⟩)] [(24, pieceOf sh_z15z_L24 (LP_z15z_L24 g g.N)), (31, pieceOf sh_z15z_L31 (LP_z15z_L31 g g.N))] [] [] [] [] []
theorem ct_z15z [Fuel] : NatTab (E_z15z I_z15z).C := ct_of (P := Tryz.prog) (T := T) (.cons ok_z75z (.cons ok_z20z (.cons ok_strings_IndexRune (.cons ok_z71z .nil)))) (by kernel_rfl)
noncomputable def cb_z15z_L14 : Code := sub [1, 1, 1, 0, 1, 0, 1, 1, 0, 0, 1, 0, 0] code_194
theorem lf_z15z_L14 [Fuel] : LoopFine (E_z15z I_z15z) NN cb_z15z_L14 := no_loop (by kernel_rfl)
noncomputable def cb_z15z_L24 : Code := sub [1, 1, 1, 1, 0, 1, 0, 1, 1, 0, 1, 0, 0] code_194
theorem s_z15z_L24 (g : C_z15z) (n : Nat) : StepOk (E_z15z g) g.N cb_z15z_L24 sh_z15z_L24 (LP_z15z_L24 g) n := by intro ps; unfold LP_z15z_L24; split; exact .inr fun R K => (by kernel_rfl); exact .inl fun R K => rfl
theorem lf_z15z_L24 [Fuel] : LoopFine (E_z15z I_z15z) NN cb_z15z_L24 := fine_loop sh_z15z_L24 (LP_z15z_L24 I_z15z) (by kernel_rfl) ct_z15z (cuts0 (fun _ => rfl) (by kernel_rfl)) (fun ps R K => by unfold LP_z15z_L24; split <;> (try unfold z15z_L24) <;> rfl) (s_z15z_L24 I_z15z)
noncomputable def cb_z15z_L31 : Code := sub [1, 1, 1, 1, 1, 0, 1, 0, 0] code_194
theorem s_z15z_L31 (g : C_z15z) (n : Nat) : StepOk (E_z15z g) g.N cb_z15z_L31 sh_z15z_L31 (LP_z15z_L31 g) n := by intro ps; unfold LP_z15z_L31; split; exact .inr fun R K => (by kernel_rfl); exact .inl fun R K => rfl
theorem lf_z15z_L31 [Fuel] : LoopFine (E_z15z I_z15z) NN cb_z15z_L31 := fine_loop sh_z15z_L31 (LP_z15z_L31 I_z15z) (by kernel_rfl) ct_z15z (cuts0 (fun _ => rfl) (by kernel_rfl)) (fun ps R K => by unfold LP_z15z_L31; split <;> (try unfold z15z_L31) <;> rfl) (s_z15z_L31 I_z15z)
theorem sm_z15z (g : C_z15z) : Same (SS_z15z (@z15z_ g)) (abody (E_z15z g) Tryz.f194 code_194 0 [] [.asis] g.N) := by intro args; unfold SS_z15z; split; exact .inr fun R k => (by kernel_rfl); exact .inl fun R k => rfl
theorem ok_z15z [Fuel] : Ok 194 (SS_z15z (@z15z _)) := okF_of std (.cons ok_z75z (.cons ok_z20z (.cons ok_strings_IndexRune (.cons ok_z71z .nil)))) ⟨rfl, rfl, by kernel_rfl, rfl, rfl, rfl⟩ (sm_z15z I_z15z) (cutsL (fun _ => rfl) (.cons lf_z15z_L14 (.cons lf_z15z_L24 (.cons lf_z15z_L31 .nil))) (by kernel_rfl)) Tryz.func194 (by kernel_rfl) (by kernel_rfl)
abbrev T_R_in : Type 1 := Int → Int → Int → {R : Type} → (Bool → Option R) → Option R
def R_in_ (g : Nat) (a1 a2 a3 : Int) {R : Type} (k0 : Bool → Option R) : Option R :=
 (bif (decide (a2 ≤ a1)) then k0 (decide (a1 ≤ a3)) else k0 false)
noncomputable def R_in [Fuel] : T_R_in := @R_in_ NN
def SS_R_in (g : T_R_in) : Spec A := fun args => match args with | [.d (.int .i64 a1), .d (.int .i64 a2), .d (.int .i64 a3)] => fun k => g a1 a2 a3 (fun z0 => k (.d (.bool z0)) [.undef, .undef, .undef]) | _ => fun _ => none
noncomputable def code_196 : Code := (Tryz.f196.body).getD .skip
noncomputable def E_R_in (g : Nat) : Env A := mkE [] [] [] [] [] [] [] [] [] []
theorem sm_R_in (g : Nat) : Same (SS_R_in (@R_in_ g)) (abody (E_R_in g) Tryz.f196 code_196 0 [] [.asis] g) := by intro args; unfold SS_R_in; split; exact .inr fun R k => (by kernel_rfl); exact .inl fun R k => rfl
theorem ok_R_in [Fuel] : Ok 196 (SS_R_in (@R_in _)) := okF_of std .nil ⟨rfl, rfl, by kernel_rfl, rfl, rfl, rfl⟩ (sm_R_in NN) (cuts0 (fun _ => rfl) (by kernel_rfl)) Tryz.func196 (by kernel_rfl) (by kernel_rfl)
abbrev T_strings_Trim : Type 1 := List UInt8 → List UInt8 → {R : Type} → (List UInt8 → Option R) → Option R
def strings_Trim [Fuel] : T_strings_Trim := @X_trim
def SS_strings_Trim (g : T_strings_Trim) : Spec A := SSX_trim g
theorem ok_strings_Trim [Fuel] : Ok 110 (SS_strings_Trim (@strings_Trim _)) := ⟨ssx_trim_sound (trim_sound rfl (fun s cs w h1 h2 h3 => Any.strings_Trim_laid Tryz.lays160 (by kernel_rfl) s cs w h1 h2 h3)), ssx_trim_nat, enters_of (fn := Tryz.f110) Tryz.func110 (by kernel_rfl) (by kernel_rfl)⟩
abbrev T_strings_ContainsAny : Type 1 := List UInt8 → List UInt8 → {R : Type} → (Bool → Option R) → Option R
def strings_ContainsAny [Fuel] : T_strings_ContainsAny := @X_cany
def SS_strings_ContainsAny (g : T_strings_ContainsAny) : Spec A := SSX_cany g
theorem ok_strings_ContainsAny [Fuel] : Ok 197 (SS_strings_ContainsAny (@strings_ContainsAny _)) := ⟨ssx_cany_sound (cany_sound rfl (fun s cs w h1 h2 h3 h4 => Any.strings_ContainsAny_laid Tryz.lays150 (by kernel_rfl) s cs w h1 h2 h3 h4)), ssx_cany_nat, enters_of (fn := Tryz.f197) Tryz.func197 (by kernel_rfl) (by kernel_rfl)⟩
abbrev T_R_plain : Type 1 := List UInt8 → Int → Int → {R : Type} → (Bool → Option R) → Option R
structure C_R_plain where
 N : Nat
 strings_Trim : T_strings_Trim
 R_in : T_R_in
 strings_ContainsAny : T_strings_ContainsAny
def R_plain_ (g : C_R_plain) (a1 : List UInt8) (a2 a3 : Int) {R : Type} (k0 : Bool → Option R) : Option R :=
 (g.R_in (a1.length : Int) a2 a3 (fun r4 => (bif r4 then (g.strings_Trim a1 [97, 98, 99, 100, 101, 102, 103, 104, 105, 106, 107, 108, 109, 110, 111, 112, 113, 114, 115, 116, 117, 118, 119, 120, 121, 122, 48, 49, 50, 51, 52, 53, 54, 55, 56, 57] (fun r5 => (bif (r5 == []) then (g.strings_ContainsAny a1 [97, 98, 99, 100, 101, 102, 103, 104, 105, 106, 107, 108, 109, 110, 111, 112, 113, 114, 115, 116, 117, 118, 119, 120, 121, 122] (fun r6 => k0 r6)) else k0 false))) else k0 false)))
noncomputable def I_R_plain [Fuel] : C_R_plain := ⟨NN, @strings_Trim _, @R_in _, @strings_ContainsAny _⟩
noncomputable def R_plain [Fuel] : T_R_plain := @R_plain_ I_R_plain
def SS_R_plain (g : T_R_plain) : Spec A := fun args => match args with | [.d (.str a1), .d (.int .i64 a2), .d (.int .i64 a3)] => fun k => g a1 a2 a3 (fun z0 => k (.d (.bool z0)) [.undef, .undef, .undef]) | _ => fun _ => none
noncomputable def code_195 : Code := (Tryz.f195.body).getD .skip
noncomputable def E_R_plain (g : C_R_plain) : Env A := mkE [(110, SS_strings_Trim g.strings_Trim), (196, SS_R_in g.R_in), (197, SS_strings_ContainsAny g.strings_ContainsAny)] [] [] [] [] [] [] [] [] []
theorem sm_R_plain (g : C_R_plain) : Same (SS_R_plain (@R_plain_ g)) (abody (E_R_plain g) Tryz.f195 code_195 0 [] [.asis] g.N) := by intro args; unfold SS_R_plain; split; exact .inr fun R k => (by kernel_rfl); exact .inl fun R k => rfl
theorem ok_R_plain [Fuel] : Ok 195 (SS_R_plain (@R_plain _)) := okF_of std (.cons ok_strings_Trim (.cons ok_R_in (.cons ok_strings_ContainsAny .nil))) ⟨rfl, rfl, by kernel_rfl, rfl, rfl, rfl⟩ (sm_R_plain I_R_plain) (cuts0 (fun _ => rfl) (by kernel_rfl)) Tryz.func195 (by kernel_rfl) (by kernel_rfl)
abbrev T_R_baseAt : Type 1 := List UInt8 → {R : Type} → (Int → Option R) → Option R
structure C_R_baseAt where
 N : Nat
 z15z : T_z15z
 R_plain : T_R_plain
 R_in : T_R_in
 strings_ContainsAny : T_strings_ContainsAny
def R_baseAt_ (g : C_R_baseAt) (a1 : List UInt8) {R : Type} (k0 : Int → Option R) : Option R :=
 (g.z15z a1 [48, 49, 50, 51, 52, 53, 54, 55, 56, 57] (fun r2 => (g.R_plain a1 3 10 (fun r3 => (bif (!r3) then k0 (-1) else (g.R_in r2 1 3 (fun r4 => (bif (!r4) then k0 (-1) else (g.R_in (w64 ((w64 ((a1.length : Int) - 1)) - r2)) 1 4 (fun r5 => (bif (!r5) then k0 (-1) else (bif (decide (0 ≤ r2) && decide (r2 ≤ (a1.length : Int))) then (g.strings_ContainsAny (a1.take (r2 : Int).toNat) [97, 98, 99, 100, 101, 102, 103, 104, 105, 106, 107, 108, 109, 110, 111, 112, 113, 114, 115, 116, 117, 118, 119, 120, 121, 122] (fun r6 => (bif (!r6) then k0 (-1) else k0 r2))) else none))))))))))))
noncomputable def I_R_baseAt [Fuel] : C_R_baseAt := ⟨NN, @z15z _, @R_plain _, @R_in _, @strings_ContainsAny _⟩
noncomputable def R_baseAt [Fuel] : T_R_baseAt := @R_baseAt_ I_R_baseAt
def SS_R_baseAt (g : T_R_baseAt) : Spec A := fun args => match args with | [.d (.str a1)] => fun k => g a1 (fun z0 => k (.d (.int .i64 z0)) [.undef]) | _ => fun _ => none
noncomputable def code_133 : Code := (Tryz.f133.body).getD .skip
noncomputable def E_R_baseAt (g : C_R_baseAt) : Env A := mkE [(194, SS_z15z g.z15z), (195, SS_R_plain g.R_plain), (196, SS_R_in g.R_in), (197, SS_strings_ContainsAny g.strings_ContainsAny)] [] [] [] [] [] [] [] [] []
theorem sm_R_baseAt (g : C_R_baseAt) : Same (SS_R_baseAt (@R_baseAt_ g)) (abody (E_R_baseAt g) Tryz.f133 code_133 0 [] [.asis] g.N) := by intro args; unfold SS_R_baseAt; split; exact .inr fun R k => (by kernel_rfl); exact .inl fun R k => rfl
theorem ok_R_baseAt [Fuel] : Ok 133 (SS_R_baseAt (@R_baseAt _)) := okF_of std (.cons ok_z15z (.cons ok_R_plain (.cons ok_R_in (.cons ok_strings_ContainsAny .nil)))) ⟨rfl, rfl, by kernel_rfl, rfl, rfl, rfl⟩ (sm_R_baseAt I_R_baseAt) (cuts0 (fun _ => rfl) (by kernel_rfl)) Tryz.func133 (by kernel_rfl) (by kernel_rfl)
end Go.Am
