/- The functions of the program as Lean functions, each shown to be what the code computes, part 3. No condition: lemmas for the claim. -/
import Derived.Test.YtfifleplhegkdaaGreatDoorF0
import Derived.Test.YtfifleplhegkdaaGreatDoorFSh
import Derived.Test.YtfifleplhegkdaaGreatDoorF1
import Derived.Test.YtfifleplhegkdaaGreatDoorF2
set_option linter.unusedVariables false
set_option maxRecDepth 100000
namespace Go.Am
open Go Go.Proofs
abbrev T_Stream_Busies : Type 1 := G_Stream → {R : Type} → (List G_Busy → G_Stream → Option R) → Option R
structure C_Stream_Busies where
 N : Nat
 Stream_Range : T_Stream_Range
 Stream_Flip : T_Stream_Flip
 Stream_Pick : T_Stream_Pick
 Stream_Some : T_Stream_Some
 Stream_Odd : T_Stream_Odd
 slices_SortStableFunc__Busy_Stream_Busies_1 : T_slices_SortStableFunc__Busy_Stream_Busies_1
def Stream_Busies_L3 (g : C_Stream_Busies) : Nat → Int → Int → G_Stream → List G_Busy → {R : Type} → (G_Stream → List G_Busy → Option R) → Option R
 | 0, _, _, _, _, _, _ => none
 | n + 1, v4, v5, v6, v7, _, e0 => (bif (decide (v5 < v4)) then (g.Stream_Some v6 [[107, 49, 97, 98], [111, 104, 50, 97, 98, 99], [119, 49, 97, 119], [107, 49, 97, 98]] (fun r28 r29 => (g.Stream_Range r29 90 320 (fun r30 r31 => (g.Stream_Pick r31 [1, 2, 3, 20, 50] (fun r32 r33 => (g.Stream_Pick r33 [0, 10, 40, 60] (fun r34 r35 => (g.Stream_Pick r35 [10, 50, 100] (fun r36 r37 => (g.Stream_Flip r37 60 (fun r38 r39 => (bif r38 then (g.Stream_Some r39 [r28, []] (fun r40 r41 => (g.Stream_Odd r41 0 30000000000 (fun r42 r43 => (g.Stream_Odd r43 1 100000 (fun r44 r45 => (g.Stream_Odd r45 1 100 (fun r46 r47 => (bif (decide ((v7.length + [(⟨r40, r42, r44, (⟨r34, r46⟩ : G_Window)⟩ : G_Busy)].length) * 48 ≤ roomBytes')) then Stream_Busies_L3 g n v4 (w64 (v5 + 1)) r47 (v7 ++ [(⟨r40, r42, r44, (⟨r34, r46⟩ : G_Window)⟩ : G_Busy)]) e0 else none))))))))) else (bif (decide ((v7.length + [(⟨r28, r30, r32, (⟨r34, (w64 (r34 + r36))⟩ : G_Window)⟩ : G_Busy)].length) * 48 ≤ roomBytes')) then Stream_Busies_L3 g n v4 (w64 (v5 + 1)) r39 (v7 ++ [(⟨r28, r30, r32, (⟨r34, (w64 (r34 + r36))⟩ : G_Window)⟩ : G_Busy)]) e0 else none)))))))))))))) else e0 v6 v7)
def Stream_Busies_ (g : C_Stream_Busies) (a1 : G_Stream) {R : Type} (k0 : List G_Busy → G_Stream → Option R) : Option R :=
 (g.Stream_Range a1 0 6 (fun r2 r3 => (Stream_Busies_L3 g g.N r2 0 r3 [] (fun e48 e49 => (g.slices_SortStableFunc__Busy_Stream_Busies_1 e49 (fun r50 => k0 r50 e48))))))
noncomputable def I_Stream_Busies [Fuel] : C_Stream_Busies := ⟨NN, @Stream_Range _, @Stream_Flip _, @Stream_Pick _, @Stream_Some _, @Stream_Odd _, @slices_SortStableFunc__Busy_Stream_Busies_1 _⟩
noncomputable def Stream_Busies [Fuel] : T_Stream_Busies := @Stream_Busies_ I_Stream_Busies
def SS_Stream_Busies (g : T_Stream_Busies) : Spec A := fun args => match args with | [.box [.d (.sl 3 a1), .d (.int .i64 a2)]] => fun k => g ⟨a1, a2⟩ (fun z0 z1 => k (.arr 44 z0) [.box [.d (.sl 3 z1.f_L), .d (.int .i64 z1.f_at)]]) | _ => fun _ => none
def sh_Stream_Busies_L3 : SSt := mkSh 57 10 [(0, .ptr 0 0), (3, .own 44 1), (6, .int .i64), (7, .int .i64)] [(0, .box [.sl 3, .int .i64]), (1, .row 44)]
def LP_Stream_Busies_L3 (g : C_Stream_Busies) (n : Nat) : LPT A := fun ps => match ps with | [.d (.int .i64 p1), .d (.int .i64 p2), .d (.sl 3 p3), .d (.int .i64 p4), .d (.sl 44 p5)] => fun K => Stream_Busies_L3 g n p1 p2 ⟨p3, p4⟩ p5 (fun z0 z1 => K (.exit 0) (mkSt 57 10 [(0, .ptr 0 0), (3, .own 44 1)] [(0, some (.box [.d (.sl 3 z0.f_L), .d (.int .i64 z0.f_at)])), (1, some (.row 44 z1))])) | _ => fun _ => none
noncomputable def code_6 : Code := (Tryz.f6.body).getD .skip
noncomputable def E_Stream_Busies (g : C_Stream_Busies) : Env A := mkE [(7, SS_Stream_Range g.Stream_Range), (21, SS_Stream_Flip g.Stream_Flip), (22, SS_Stream_Pick g.Stream_Pick), (24, SS_Stream_Some g.Stream_Some), (25, SS_Stream_Odd g.Stream_Odd), (29, SS_slices_SortStableFunc__Busy_Stream_Busies_1 g.slices_SortStableFunc__Busy_Stream_Busies_1)] [(4, [5]), (10, [2]), (15, [3]), (18, [4]), (26, [6]), (36, [7]), (51, [8]), (52, [9])] [(3, ⟨[0, 3, 6, 7], [(3, 44, 1)], [0], []⟩)] [(3, ⟨[0, 3], [], [0, 1], []⟩)] [(3, pieceOf sh_Stream_Busies_L3 (LP_Stream_Busies_L3 g g.N))] [] [] [] [(29, 0)] [0]
theorem ct_Stream_Busies [Fuel] : NatTab (E_Stream_Busies I_Stream_Busies).C := ct_of (P := Tryz.prog) (T := T) (.cons ok_Stream_Range (.cons ok_Stream_Flip (.cons ok_Stream_Pick (.cons ok_Stream_Some (.cons ok_Stream_Odd (.cons ok_slices_SortStableFunc__Busy_Stream_Busies_1 .nil)))))) (by kernel_rfl)
noncomputable def cb_Stream_Busies_L3 : Code := sub [1, 1, 0, 1, 0, 0] code_6
theorem s_Stream_Busies_L3 (g : C_Stream_Busies) (n : Nat) : StepOk (E_Stream_Busies g) g.N cb_Stream_Busies_L3 sh_Stream_Busies_L3 (LP_Stream_Busies_L3 g) n := by intro ps; unfold LP_Stream_Busies_L3; split; exact .inr fun R K => (by kernel_rfl); exact .inl fun R K => rfl
theorem lf_Stream_Busies_L3 [Fuel] : LoopFine (E_Stream_Busies I_Stream_Busies) NN cb_Stream_Busies_L3 := fine_loop sh_Stream_Busies_L3 (LP_Stream_Busies_L3 I_Stream_Busies) (by kernel_rfl) ct_Stream_Busies (cuts0 (fun _ => rfl) (by kernel_rfl)) (fun ps R K => by unfold LP_Stream_Busies_L3; split <;> (try unfold Stream_Busies_L3) <;> rfl) (s_Stream_Busies_L3 I_Stream_Busies)
theorem sm_Stream_Busies (g : C_Stream_Busies) : Same (SS_Stream_Busies (@Stream_Busies_ g)) (abody (E_Stream_Busies g) Tryz.f6 code_6 10 [0] [.arr 44] g.N) := by intro args; unfold SS_Stream_Busies; split; exact .inr fun R k => (by kernel_rfl); exact .inl fun R k => rfl
theorem ok_Stream_Busies [Fuel] : Ok 6 (SS_Stream_Busies (@Stream_Busies _)) := okF_of std (.cons ok_Stream_Range (.cons ok_Stream_Flip (.cons ok_Stream_Pick (.cons ok_Stream_Some (.cons ok_Stream_Odd (.cons ok_slices_SortStableFunc__Busy_Stream_Busies_1 .nil)))))) ⟨rfl, rfl, by kernel_rfl, rfl, rfl, rfl⟩ (sm_Stream_Busies I_Stream_Busies) (cutsL (fun _ => rfl) (.cons lf_Stream_Busies_L3 .nil) (by kernel_rfl)) Tryz.func6 (by kernel_rfl) (by kernel_rfl)
abbrev T_strings_IndexByte : Type 1 := List UInt8 → Int → {R : Type} → (Int → Option R) → Option R
def strings_IndexByte [Fuel] : T_strings_IndexByte := @X_ixb
def SS_strings_IndexByte (g : T_strings_IndexByte) : Spec A := SSX_ixb g
theorem ok_strings_IndexByte [Fuel] : Ok 74 (SS_strings_IndexByte (@strings_IndexByte _)) := ⟨ssx_ixb_sound (ixb_sound (Any.strings_IndexByte Tryz.lays137)), ssx_ixb_nat, enters_of (fn := Tryz.f74) Tryz.func74 (by kernel_rfl) (by kernel_rfl)⟩
abbrev T_strings_Trim : Type 1 := List UInt8 → List UInt8 → {R : Type} → (List UInt8 → Option R) → Option R
def strings_Trim [Fuel] : T_strings_Trim := @X_trim
def SS_strings_Trim (g : T_strings_Trim) : Spec A := SSX_trim g
theorem ok_strings_Trim [Fuel] : Ok 75 (SS_strings_Trim (@strings_Trim _)) := ⟨ssx_trim_sound (trim_sound rfl (fun s cs w h1 h2 h3 => Any.strings_Trim_laid Tryz.lays160 (by kernel_rfl) s cs w h1 h2 h3)), ssx_trim_nat, enters_of (fn := Tryz.f75) Tryz.func75 (by kernel_rfl) (by kernel_rfl)⟩
abbrev T_kit_IsKey : Type 1 := List UInt8 → {R : Type} → (Bool → Option R) → Option R
structure C_kit_IsKey where
 N : Nat
 strings_IndexByte : T_strings_IndexByte
 strings_Trim : T_strings_Trim
def kit_IsKey_ (g : C_kit_IsKey) (a1 : List UInt8) {R : Type} (k0 : Bool → Option R) : Option R :=
 (bif (!(a1 == [])) then (bif (decide ((a1.length : Int) ≤ 40)) then (at_ a1 0 fun x2 => (g.strings_IndexByte [97, 98, 99, 100, 101, 102, 103, 104, 105, 106, 107, 108, 109, 110, 111, 112, 113, 114, 115, 116, 117, 118, 119, 120, 121, 122] (x2.toNat : Int) (fun r3 => (bif (decide (r3 ≥ 0)) then (g.strings_Trim a1 [97, 98, 99, 100, 101, 102, 103, 104, 105, 106, 107, 108, 109, 110, 111, 112, 113, 114, 115, 116, 117, 118, 119, 120, 121, 122, 48, 49, 50, 51, 52, 53, 54, 55, 56, 57, 45, 95] (fun r4 => k0 (r4 == []))) else k0 false)))) else k0 false) else k0 false)
noncomputable def I_kit_IsKey [Fuel] : C_kit_IsKey := ⟨NN, @strings_IndexByte _, @strings_Trim _⟩
noncomputable def kit_IsKey [Fuel] : T_kit_IsKey := @kit_IsKey_ I_kit_IsKey
def SS_kit_IsKey (g : T_kit_IsKey) : Spec A := fun args => match args with | [.d (.str a1)] => fun k => g a1 (fun z0 => k (.d (.bool z0)) [.undef]) | _ => fun _ => none
noncomputable def code_39 : Code := (Tryz.f39.body).getD .skip
noncomputable def E_kit_IsKey (g : C_kit_IsKey) : Env A := mkE [(74, SS_strings_IndexByte g.strings_IndexByte), (75, SS_strings_Trim g.strings_Trim)] [] [] [] [] [] [] [] [] []
theorem sm_kit_IsKey (g : C_kit_IsKey) : Same (SS_kit_IsKey (@kit_IsKey_ g)) (abody (E_kit_IsKey g) Tryz.f39 code_39 0 [] [.asis] g.N) := by intro args; unfold SS_kit_IsKey; split; exact .inr fun R k => (by kernel_rfl); exact .inl fun R k => rfl
theorem ok_kit_IsKey [Fuel] : Ok 39 (SS_kit_IsKey (@kit_IsKey _)) := okF_of std (.cons ok_strings_IndexByte (.cons ok_strings_Trim .nil)) ⟨rfl, rfl, by kernel_rfl, rfl, rfl, rfl⟩ (sm_kit_IsKey I_kit_IsKey) (cuts0 (fun _ => rfl) (by kernel_rfl)) Tryz.func39 (by kernel_rfl) (by kernel_rfl)
abbrev T_kit_Outside : Type 1 := Int → Int → Int → {R : Type} → (Bool → Option R) → Option R
def kit_Outside_ (g : Nat) (a1 a2 a3 : Int) {R : Type} (k0 : Bool → Option R) : Option R :=
 (bif (decide (a1 < a2)) then k0 true else k0 (decide (a1 > a3)))
noncomputable def kit_Outside [Fuel] : T_kit_Outside := @kit_Outside_ NN
def SS_kit_Outside (g : T_kit_Outside) : Spec A := fun args => match args with | [.d (.int .i64 a1), .d (.int .i64 a2), .d (.int .i64 a3)] => fun k => g a1 a2 a3 (fun z0 => k (.d (.bool z0)) [.undef, .undef, .undef]) | _ => fun _ => none
noncomputable def code_33 : Code := (Tryz.f33.body).getD .skip
noncomputable def E_kit_Outside (g : Nat) : Env A := mkE [] [] [] [] [] [] [] [] [] []
theorem sm_kit_Outside (g : Nat) : Same (SS_kit_Outside (@kit_Outside_ g)) (abody (E_kit_Outside g) Tryz.f33 code_33 0 [] [.asis] g) := by intro args; unfold SS_kit_Outside; split; exact .inr fun R k => (by kernel_rfl); exact .inl fun R k => rfl
theorem ok_kit_Outside [Fuel] : Ok 33 (SS_kit_Outside (@kit_Outside _)) := okF_of std .nil ⟨rfl, rfl, by kernel_rfl, rfl, rfl, rfl⟩ (sm_kit_Outside NN) (cuts0 (fun _ => rfl) (by kernel_rfl)) Tryz.func33 (by kernel_rfl) (by kernel_rfl)
abbrev T_kit_IsMode : Type 1 := Int → {R : Type} → (Bool → Option R) → Option R
structure C_kit_IsMode where
 N : Nat
 kit_Outside : T_kit_Outside
def kit_IsMode_ (g : C_kit_IsMode) (a1 : Int) {R : Type} (k0 : Bool → Option R) : Option R :=
 (g.kit_Outside a1 1 3 (fun r2 => k0 (!r2)))
noncomputable def I_kit_IsMode [Fuel] : C_kit_IsMode := ⟨NN, @kit_Outside _⟩
noncomputable def kit_IsMode [Fuel] : T_kit_IsMode := @kit_IsMode_ I_kit_IsMode
def SS_kit_IsMode (g : T_kit_IsMode) : Spec A := fun args => match args with | [.d (.int .i64 a1)] => fun k => g a1 (fun z0 => k (.d (.bool z0)) [.undef]) | _ => fun _ => none
noncomputable def code_40 : Code := (Tryz.f40.body).getD .skip
noncomputable def E_kit_IsMode (g : C_kit_IsMode) : Env A := mkE [(33, SS_kit_Outside g.kit_Outside)] [] [] [] [] [] [] [] [] []
theorem sm_kit_IsMode (g : C_kit_IsMode) : Same (SS_kit_IsMode (@kit_IsMode_ g)) (abody (E_kit_IsMode g) Tryz.f40 code_40 0 [] [.asis] g.N) := by intro args; unfold SS_kit_IsMode; split; exact .inr fun R k => (by kernel_rfl); exact .inl fun R k => rfl
theorem ok_kit_IsMode [Fuel] : Ok 40 (SS_kit_IsMode (@kit_IsMode _)) := okF_of std (.cons ok_kit_Outside .nil) ⟨rfl, rfl, by kernel_rfl, rfl, rfl, rfl⟩ (sm_kit_IsMode I_kit_IsMode) (cuts0 (fun _ => rfl) (by kernel_rfl)) Tryz.func40 (by kernel_rfl) (by kernel_rfl)
abbrev T_band_modesFault : Type 1 := List Int → {R : Type} → (Int → Option R) → Option R
structure C_band_modesFault where
 N : Nat
 kit_IsMode : T_kit_IsMode
def band_modesFault_L4 (g : C_band_modesFault) : Nat → List Int → List Int → Int → Int → {R : Type} → (Int → Option R) → Option R → Option R
 | 0, _, _, _, _, _, _, _ => none
 | n + 1, v2, v3, v4, v5, _, e0, e1 => (bif (decide (v5 < v4)) then (get_ v3 v5 fun x9 => (g.kit_IsMode x9 (fun r10 => (bif (!r10) then e0 4 else (bif (decide (v5 > 0)) then (get_ v2 (w64 (v5 - 1)) fun x11 => (bif (decide (x9 ≤ x11)) then e0 7 else band_modesFault_L4 g n v2 v3 v4 (w64 (v5 + 1)) e0 e1)) else band_modesFault_L4 g n v2 v3 v4 (w64 (v5 + 1)) e0 e1))))) else e1)
def band_modesFault_ (g : C_band_modesFault) (a1 : List Int) {R : Type} (k0 : Int → Option R) : Option R :=
 (bif ((a1.length : Int) == 0) then k0 8 else (band_modesFault_L4 g g.N a1 a1 (a1.length : Int) 0 (fun e12 => k0 e12) (k0 0)))
noncomputable def I_band_modesFault [Fuel] : C_band_modesFault := ⟨NN, @kit_IsMode _⟩
noncomputable def band_modesFault [Fuel] : T_band_modesFault := @band_modesFault_ I_band_modesFault
def SS_band_modesFault (g : T_band_modesFault) : Spec A := fun args => match args with | [.d (.sl 3 a1)] => fun k => g a1 (fun z0 => k (.d (.int .i64 z0)) [.undef]) | _ => fun _ => none
def sh_band_modesFault_L4 : SSt := mkSh 30 0 [(0, .sl 3), (8, .sl 3), (9, .int .i64), (10, .int .i64)] []
def LP_band_modesFault_L4 (g : C_band_modesFault) (n : Nat) : LPT A := fun ps => match ps with | [.d (.sl 3 p1), .d (.sl 3 p2), .d (.int .i64 p3), .d (.int .i64 p4)] => fun K => band_modesFault_L4 g n p1 p2 p3 p4 (fun z0 => K .ret (mkSt 30 0 [(2, .d (.int .i64 z0))] [])) (K (.exit 0) (mkSt 30 0 [] [])) | _ => fun _ => none
noncomputable def code_71 : Code := (Tryz.f71.body).getD .skip
noncomputable def E_band_modesFault (g : C_band_modesFault) : Env A := mkE [(40, SS_kit_IsMode g.kit_IsMode)] [] [(4, ⟨[0, 8, 9, 10], [], [], []⟩)] [(4, ⟨[2], [], [], []⟩)] [(4, pieceOf sh_band_modesFault_L4 (LP_band_modesFault_L4 g g.N))] [] [] [] [] []
theorem ct_band_modesFault [Fuel] : NatTab (E_band_modesFault I_band_modesFault).C := ct_of (P := Tryz.prog) (T := T) (.cons ok_kit_IsMode .nil) (by kernel_rfl)
noncomputable def cb_band_modesFault_L4 : Code := sub [1, 1, 0, 1, 0, 0] code_71
theorem s_band_modesFault_L4 (g : C_band_modesFault) (n : Nat) : StepOk (E_band_modesFault g) g.N cb_band_modesFault_L4 sh_band_modesFault_L4 (LP_band_modesFault_L4 g) n := by intro ps; unfold LP_band_modesFault_L4; split; exact .inr fun R K => (by kernel_rfl); exact .inl fun R K => rfl
theorem lf_band_modesFault_L4 [Fuel] : LoopFine (E_band_modesFault I_band_modesFault) NN cb_band_modesFault_L4 := fine_loop sh_band_modesFault_L4 (LP_band_modesFault_L4 I_band_modesFault) (by kernel_rfl) ct_band_modesFault (cuts0 (fun _ => rfl) (by kernel_rfl)) (fun ps R K => by unfold LP_band_modesFault_L4; split <;> (try unfold band_modesFault_L4) <;> rfl) (s_band_modesFault_L4 I_band_modesFault)
theorem sm_band_modesFault (g : C_band_modesFault) : Same (SS_band_modesFault (@band_modesFault_ g)) (abody (E_band_modesFault g) Tryz.f71 code_71 0 [] [.asis] g.N) := by intro args; unfold SS_band_modesFault; split; exact .inr fun R k => (by kernel_rfl); exact .inl fun R k => rfl
theorem ok_band_modesFault [Fuel] : Ok 71 (SS_band_modesFault (@band_modesFault _)) := okF_of std (.cons ok_kit_IsMode .nil) ⟨rfl, rfl, by kernel_rfl, rfl, rfl, rfl⟩ (sm_band_modesFault I_band_modesFault) (cutsL (fun _ => rfl) (.cons lf_band_modesFault_L4 .nil) (by kernel_rfl)) Tryz.func71 (by kernel_rfl) (by kernel_rfl)
abbrev T_kit_IsTime : Type 1 := G_Window → {R : Type} → (Bool → Option R) → Option R
def kit_IsTime_ (g : Nat) (a1 : G_Window) {R : Type} (k0 : Bool → Option R) : Option R :=
 (bif (decide (a1.f_From ≥ 0)) then (bif (decide (a1.f_From < a1.f_To)) then k0 (decide (a1.f_To ≤ 345686400000)) else k0 false) else k0 false)
noncomputable def kit_IsTime [Fuel] : T_kit_IsTime := @kit_IsTime_ NN
def SS_kit_IsTime (g : T_kit_IsTime) : Spec A := fun args => match args with | [.agg [.d (.int .i64 a1), .d (.int .i64 a2)]] => fun k => g ⟨a1, a2⟩ (fun z0 => k (.d (.bool z0)) [.undef]) | _ => fun _ => none
noncomputable def code_72 : Code := (Tryz.f72.body).getD .skip
noncomputable def E_kit_IsTime (g : Nat) : Env A := mkE [] [(1, [0])] [] [] [] [] [] [] [] []
theorem sm_kit_IsTime (g : Nat) : Same (SS_kit_IsTime (@kit_IsTime_ g)) (abody (E_kit_IsTime g) Tryz.f72 code_72 1 [] [.asis] g) := by intro args; unfold SS_kit_IsTime; split; exact .inr fun R k => (by kernel_rfl); exact .inl fun R k => rfl
theorem ok_kit_IsTime [Fuel] : Ok 72 (SS_kit_IsTime (@kit_IsTime _)) := okF_of std .nil ⟨rfl, rfl, by kernel_rfl, rfl, rfl, rfl⟩ (sm_kit_IsTime NN) (cuts0 (fun _ => rfl) (by kernel_rfl)) Tryz.func72 (by kernel_rfl) (by kernel_rfl)
abbrev T_strings_Compare : Type 1 := List UInt8 → List UInt8 → {R : Type} → (Int → Option R) → Option R
def strings_Compare [Fuel] : T_strings_Compare := @X_cmp
def SS_strings_Compare (g : T_strings_Compare) : Spec A := SSX_cmp g
theorem ok_strings_Compare [Fuel] : Ok 89 (SS_strings_Compare (@strings_Compare _)) := ⟨ssx_cmp_sound (cmp_sound (Any.strings_Compare Tryz.lays106)), ssx_cmp_nat, enters_of (fn := Tryz.f89) Tryz.func89 (by kernel_rfl) (by kernel_rfl)⟩
theorem okd_strings_Compare [Fuel] : OkD 89 (SS_strings_Compare (@strings_Compare _)) := ⟨ssx_cmp_sound (cmp_sound (Any.strings_Compare Tryz.lays106)), ssx_cmp_nat, enters_of (fn := Tryz.f89) Tryz.func89 (by kernel_rfl) (by kernel_rfl)⟩
abbrev T_cmp_Or__int : Type 1 := List Int → {R : Type} → (Int → Option R) → Option R
def cmp_Or__int_L3 (g : Nat) : Nat → Int → List Int → Int → Int → {R : Type} → (Int → Int → Option R) → (Int → Option R) → Option R
 | 0, _, _, _, _, _, _, _ => none
 | n + 1, v2, v3, v4, v5, _, e0, e1 => (bif (decide (v5 < v4)) then (get_ v3 v5 fun x7 => (bif (x7 != v2) then e0 x7 v2 else cmp_Or__int_L3 g n v2 v3 v4 (w64 (v5 + 1)) e0 e1)) else e1 v2)
def cmp_Or__int_ (g : Nat) (a1 : List Int) {R : Type} (k0 : Int → Option R) : Option R :=
 (cmp_Or__int_L3 g g 0 a1 (a1.length : Int) 0 (fun e8 e9 => k0 e8) (fun e10 => k0 e10))
noncomputable def cmp_Or__int [Fuel] : T_cmp_Or__int := @cmp_Or__int_ NN
def SS_cmp_Or__int (g : T_cmp_Or__int) : Spec A := fun args => match args with | [.d (.sl 3 a1)] => fun k => g a1 (fun z0 => k (.d (.int .i64 z0)) [.undef]) | _ => fun _ => none
def sh_cmp_Or__int_L3 : SSt := mkSh 18 0 [(3, .int .i64), (6, .sl 3), (7, .int .i64), (8, .int .i64)] []
def LP_cmp_Or__int_L3 (g : Nat) (n : Nat) : LPT A := fun ps => match ps with | [.d (.int .i64 p1), .d (.sl 3 p2), .d (.int .i64 p3), .d (.int .i64 p4)] => fun K => cmp_Or__int_L3 g n p1 p2 p3 p4 (fun z0 z1 => K .ret (mkSt 18 0 [(2, .d (.int .i64 z0)), (3, .d (.int .i64 z1))] [])) (fun z0 => K (.exit 0) (mkSt 18 0 [(3, .d (.int .i64 z0))] [])) | _ => fun _ => none
noncomputable def code_88 : Code := (Tryz.f88.body).getD .skip
noncomputable def E_cmp_Or__int (g : Nat) : Env A := mkE [] [] [(3, ⟨[3, 6, 7, 8], [], [], []⟩)] [(3, ⟨[2, 3], [], [], []⟩)] [(3, pieceOf sh_cmp_Or__int_L3 (LP_cmp_Or__int_L3 g g))] [] [] [] [] []
theorem ct_cmp_Or__int [Fuel] : NatTab (E_cmp_Or__int NN).C := ct_of (P := Tryz.prog) (T := T) .nil (by kernel_rfl)
noncomputable def cb_cmp_Or__int_L3 : Code := sub [1, 1, 0, 1, 0, 0] code_88
theorem s_cmp_Or__int_L3 (g : Nat) (n : Nat) : StepOk (E_cmp_Or__int g) g cb_cmp_Or__int_L3 sh_cmp_Or__int_L3 (LP_cmp_Or__int_L3 g) n := by intro ps; unfold LP_cmp_Or__int_L3; split; exact .inr fun R K => (by kernel_rfl); exact .inl fun R K => rfl
theorem lf_cmp_Or__int_L3 [Fuel] : LoopFine (E_cmp_Or__int NN) NN cb_cmp_Or__int_L3 := fine_loop sh_cmp_Or__int_L3 (LP_cmp_Or__int_L3 NN) (by kernel_rfl) ct_cmp_Or__int (cuts0 (fun _ => rfl) (by kernel_rfl)) (fun ps R K => by unfold LP_cmp_Or__int_L3; split <;> (try unfold cmp_Or__int_L3) <;> rfl) (s_cmp_Or__int_L3 NN)
theorem sm_cmp_Or__int (g : Nat) : Same (SS_cmp_Or__int (@cmp_Or__int_ g)) (abody (E_cmp_Or__int g) Tryz.f88 code_88 0 [] [.asis] g) := by intro args; unfold SS_cmp_Or__int; split; exact .inr fun R k => (by kernel_rfl); exact .inl fun R k => rfl
theorem ok_cmp_Or__int [Fuel] : Ok 88 (SS_cmp_Or__int (@cmp_Or__int _)) := okF_of std .nil ⟨rfl, rfl, by kernel_rfl, rfl, rfl, rfl⟩ (sm_cmp_Or__int NN) (cutsL (fun _ => rfl) (.cons lf_cmp_Or__int_L3 .nil) (by kernel_rfl)) Tryz.func88 (by kernel_rfl) (by kernel_rfl)
noncomputable def Ed_cmp_Or__int (g : Nat) : Env A := mkED [] [] [(3, ⟨[3, 6, 7, 8], [], [], []⟩)] [(3, ⟨[2, 3], [], [], []⟩)] [(3, pieceOf sh_cmp_Or__int_L3 (LP_cmp_Or__int_L3 g g))] [] [] [] [] []
theorem ctd_cmp_Or__int [Fuel] : NatTab (Ed_cmp_Or__int NN).C := ct_of (P := Tryz.prog) (T := TD) .nil (by kernel_rfl)
theorem sd_cmp_Or__int_L3 (g : Nat) (n : Nat) : StepOk (Ed_cmp_Or__int g) g cb_cmp_Or__int_L3 sh_cmp_Or__int_L3 (LP_cmp_Or__int_L3 g) n := by intro ps; unfold LP_cmp_Or__int_L3; split; exact .inr fun R K => (by kernel_rfl); exact .inl fun R K => rfl
theorem lfd_cmp_Or__int_L3 [Fuel] : LoopFine (Ed_cmp_Or__int NN) NN cb_cmp_Or__int_L3 := fine_loop sh_cmp_Or__int_L3 (LP_cmp_Or__int_L3 NN) (by kernel_rfl) ctd_cmp_Or__int (cuts0 (fun _ => rfl) (by kernel_rfl)) (fun ps R K => by unfold LP_cmp_Or__int_L3; split <;> (try unfold cmp_Or__int_L3) <;> rfl) (sd_cmp_Or__int_L3 NN)
theorem smd_cmp_Or__int (g : Nat) : Same (SS_cmp_Or__int (@cmp_Or__int_ g)) (abody (Ed_cmp_Or__int g) Tryz.f88 code_88 0 [] [.asis] g) := by intro args; unfold SS_cmp_Or__int; split; exact .inr fun R k => (by kernel_rfl); exact .inl fun R k => rfl
theorem okd_cmp_Or__int [Fuel] : OkD 88 (SS_cmp_Or__int (@cmp_Or__int _)) := okF_of stdD .nil ⟨rfl, rfl, by kernel_rfl, rfl, rfl, rfl⟩ (smd_cmp_Or__int NN) (cutsL (fun _ => rfl) (.cons lfd_cmp_Or__int_L3 .nil) (by kernel_rfl)) Tryz.func88 (by kernel_rfl) (by kernel_rfl)
abbrev T_band_compareSegments : Type 1 := G_Segment → G_Segment → {R : Type} → (Int → Option R) → Option R
structure C_band_compareSegments where
 N : Nat
 cmp_Compare__int : T_cmp_Compare__int
 cmp_Or__int : T_cmp_Or__int
 strings_Compare : T_strings_Compare
def band_compareSegments_ (g : C_band_compareSegments) (a1 a2 : G_Segment) {R : Type} (k0 : Int → Option R) : Option R :=
 (g.strings_Compare a1.f_Class a2.f_Class (fun r3 => (g.cmp_Compare__int a1.f_Low a2.f_Low (fun r4 => (g.cmp_Compare__int a1.f_High a2.f_High (fun r5 => (g.cmp_Compare__int a1.f_Time.f_From a2.f_Time.f_From (fun r6 => (g.cmp_Or__int [r3, r4, r5, r6] (fun r7 => k0 r7))))))))))
noncomputable def I_band_compareSegments [Fuel] : C_band_compareSegments := ⟨NN, @cmp_Compare__int _, @cmp_Or__int _, @strings_Compare _⟩
noncomputable def band_compareSegments [Fuel] : T_band_compareSegments := @band_compareSegments_ I_band_compareSegments
def SS_band_compareSegments (g : T_band_compareSegments) : Spec A := fun args => match args with | [.agg [.d (.str a1), .d (.int .i64 a2), .d (.int .i64 a3), .d (.sl 3 a4), .d (.int .i64 a5), .d (.int .i64 a6)], .agg [.d (.str a7), .d (.int .i64 a8), .d (.int .i64 a9), .d (.sl 3 a10), .d (.int .i64 a11), .d (.int .i64 a12)]] => fun k => g ⟨a1, a2, a3, a4, ⟨a5, a6⟩⟩ ⟨a7, a8, a9, a10, ⟨a11, a12⟩⟩ (fun z0 => k (.d (.int .i64 z0)) [.undef, .undef]) | _ => fun _ => none
noncomputable def code_73 : Code := (Tryz.f73.body).getD .skip
noncomputable def E_band_compareSegments (g : C_band_compareSegments) : Env A := mkE [(60, SS_cmp_Compare__int g.cmp_Compare__int), (88, SS_cmp_Or__int g.cmp_Or__int), (89, SS_strings_Compare g.strings_Compare)] [(2, [0]), (3, [1]), (27, [2])] [] [] [] [] [] [] [] []
theorem sm_band_compareSegments (g : C_band_compareSegments) : Same (SS_band_compareSegments (@band_compareSegments_ g)) (abody (E_band_compareSegments g) Tryz.f73 code_73 3 [] [.asis] g.N) := by intro args; unfold SS_band_compareSegments; split; exact .inr fun R k => (by kernel_rfl); exact .inl fun R k => rfl
theorem ok_band_compareSegments [Fuel] : Ok 73 (SS_band_compareSegments (@band_compareSegments _)) := okF_of std (.cons ok_cmp_Compare__int (.cons ok_cmp_Or__int (.cons ok_strings_Compare .nil))) ⟨rfl, rfl, by kernel_rfl, rfl, rfl, rfl⟩ (sm_band_compareSegments I_band_compareSegments) (cuts0 (fun _ => rfl) (by kernel_rfl)) Tryz.func73 (by kernel_rfl) (by kernel_rfl)
abbrev T_band_CheckSegments : Type 1 := List G_Segment → {R : Type} → (Int → Option R) → Option R
structure C_band_CheckSegments where
 N : Nat
 kit_IsKey : T_kit_IsKey
 band_modesFault : T_band_modesFault
 kit_IsTime : T_kit_IsTime
 band_compareSegments : T_band_compareSegments
def band_CheckSegments_L4 (g : C_band_CheckSegments) : Nat → List G_Segment → List G_Segment → Int → Int → {R : Type} → (Int → Option R) → Option R → Option R
 | 0, _, _, _, _, _, _, _ => none
 | n + 1, v2, v3, v4, v5, _, e0, e1 => (bif (decide (v5 < v4)) then (get_ v3 v5 fun x12 => (g.kit_IsKey x12.f_Class (fun r13 => (bif (!r13) then e0 5 else (bif (decide (x12.f_Low < 0)) then e0 1 else (bif (decide (x12.f_Low ≥ x12.f_High)) then e0 1 else (bif (decide (x12.f_High > 30000000000)) then e0 1 else (g.band_modesFault x12.f_Modes (fun r14 => (bif (r14 != 0) then e0 r14 else (g.kit_IsTime x12.f_Time (fun r15 => (bif (!r15) then e0 1 else (bif (decide (v5 > 0)) then (get_ v2 (w64 (v5 - 1)) fun x16 => (g.band_compareSegments x16 x12 (fun r17 => (bif (decide (r17 ≥ 0)) then e0 7 else band_CheckSegments_L4 g n v2 v3 v4 (w64 (v5 + 1)) e0 e1)))) else band_CheckSegments_L4 g n v2 v3 v4 (w64 (v5 + 1)) e0 e1)))))))))))))) else e1)
def band_CheckSegments_ (g : C_band_CheckSegments) (a1 : List G_Segment) {R : Type} (k0 : Int → Option R) : Option R :=
 (bif (decide ((a1.length : Int) > 500)) then k0 2 else (band_CheckSegments_L4 g g.N a1 a1 (a1.length : Int) 0 (fun e18 => k0 e18) (k0 0)))
noncomputable def I_band_CheckSegments [Fuel] : C_band_CheckSegments := ⟨NN, @kit_IsKey _, @band_modesFault _, @kit_IsTime _, @band_compareSegments _⟩
noncomputable def band_CheckSegments [Fuel] : T_band_CheckSegments := @band_CheckSegments_ I_band_CheckSegments
def SS_band_CheckSegments (g : T_band_CheckSegments) : Spec A := fun args => match args with | [.d (.sl 66 a1)] => fun k => g a1 (fun z0 => k (.d (.int .i64 z0)) [.undef]) | _ => fun _ => none
def sh_band_CheckSegments_L4 : SSt := mkSh 58 1 [(0, .sl 66), (9, .sl 66), (10, .int .i64), (11, .int .i64)] []
def LP_band_CheckSegments_L4 (g : C_band_CheckSegments) (n : Nat) : LPT A := fun ps => match ps with | [.d (.sl 66 p1), .d (.sl 66 p2), .d (.int .i64 p3), .d (.int .i64 p4)] => fun K => band_CheckSegments_L4 g n p1 p2 p3 p4 (fun z0 => K .ret (mkSt 58 1 [(2, .d (.int .i64 z0))] [])) (K (.exit 0) (mkSt 58 1 [] [])) | _ => fun _ => none
noncomputable def code_38 : Code := (Tryz.f38.body).getD .skip
noncomputable def E_band_CheckSegments (g : C_band_CheckSegments) : Env A := mkE [(39, SS_kit_IsKey g.kit_IsKey), (71, SS_band_modesFault g.band_modesFault), (72, SS_kit_IsTime g.kit_IsTime), (73, SS_band_compareSegments g.band_compareSegments)] [(4, [0])] [(4, ⟨[0, 9, 10, 11], [], [], []⟩)] [(4, ⟨[2], [], [], []⟩)] [(4, pieceOf sh_band_CheckSegments_L4 (LP_band_CheckSegments_L4 g g.N))] [] [] [] [] []
theorem ct_band_CheckSegments [Fuel] : NatTab (E_band_CheckSegments I_band_CheckSegments).C := ct_of (P := Tryz.prog) (T := T) (.cons ok_kit_IsKey (.cons ok_band_modesFault (.cons ok_kit_IsTime (.cons ok_band_compareSegments .nil)))) (by kernel_rfl)
noncomputable def cb_band_CheckSegments_L4 : Code := sub [1, 1, 0, 1, 0, 0] code_38
theorem s_band_CheckSegments_L4 (g : C_band_CheckSegments) (n : Nat) : StepOk (E_band_CheckSegments g) g.N cb_band_CheckSegments_L4 sh_band_CheckSegments_L4 (LP_band_CheckSegments_L4 g) n := by intro ps; unfold LP_band_CheckSegments_L4; split; exact .inr fun R K => (by kernel_rfl); exact .inl fun R K => rfl
theorem lf_band_CheckSegments_L4 [Fuel] : LoopFine (E_band_CheckSegments I_band_CheckSegments) NN cb_band_CheckSegments_L4 := fine_loop sh_band_CheckSegments_L4 (LP_band_CheckSegments_L4 I_band_CheckSegments) (by kernel_rfl) ct_band_CheckSegments (cuts0 (fun _ => rfl) (by kernel_rfl)) (fun ps R K => by unfold LP_band_CheckSegments_L4; split <;> (try unfold band_CheckSegments_L4) <;> rfl) (s_band_CheckSegments_L4 I_band_CheckSegments)
theorem sm_band_CheckSegments (g : C_band_CheckSegments) : Same (SS_band_CheckSegments (@band_CheckSegments_ g)) (abody (E_band_CheckSegments g) Tryz.f38 code_38 1 [] [.asis] g.N) := by intro args; unfold SS_band_CheckSegments; split; exact .inr fun R k => (by kernel_rfl); exact .inl fun R k => rfl
theorem ok_band_CheckSegments [Fuel] : Ok 38 (SS_band_CheckSegments (@band_CheckSegments _)) := okF_of std (.cons ok_kit_IsKey (.cons ok_band_modesFault (.cons ok_kit_IsTime (.cons ok_band_compareSegments .nil)))) ⟨rfl, rfl, by kernel_rfl, rfl, rfl, rfl⟩ (sm_band_CheckSegments I_band_CheckSegments) (cutsL (fun _ => rfl) (.cons lf_band_CheckSegments_L4 .nil) (by kernel_rfl)) Tryz.func38 (by kernel_rfl) (by kernel_rfl)
abbrev T_call_isLetter : Type 1 := Int → {R : Type} → (Bool → Option R) → Option R
def call_isLetter_ (g : Nat) (a1 : Int) {R : Type} (k0 : Bool → Option R) : Option R :=
 (bif (decide (a1 ≥ 97)) then k0 (decide (a1 ≤ 122)) else k0 false)
noncomputable def call_isLetter [Fuel] : T_call_isLetter := @call_isLetter_ NN
def SS_call_isLetter (g : T_call_isLetter) : Spec A := fun args => match args with | [.d (.int .u8 a1)] => fun k => g a1 (fun z0 => k (.d (.bool z0)) [.undef]) | _ => fun _ => none
noncomputable def code_212 : Code := (Tryz.f212.body).getD .skip
noncomputable def E_call_isLetter (g : Nat) : Env A := mkE [] [] [] [] [] [] [] [] [] []
theorem sm_call_isLetter (g : Nat) : Same (SS_call_isLetter (@call_isLetter_ g)) (abody (E_call_isLetter g) Tryz.f212 code_212 0 [] [.asis] g) := by intro args; unfold SS_call_isLetter; split; exact .inr fun R k => (by kernel_rfl); exact .inl fun R k => rfl
theorem ok_call_isLetter [Fuel] : Ok 212 (SS_call_isLetter (@call_isLetter _)) := okF_of std .nil ⟨rfl, rfl, by kernel_rfl, rfl, rfl, rfl⟩ (sm_call_isLetter NN) (cuts0 (fun _ => rfl) (by kernel_rfl)) Tryz.func212 (by kernel_rfl) (by kernel_rfl)
abbrev T_call_isDigit : Type 1 := Int → {R : Type} → (Bool → Option R) → Option R
def call_isDigit_ (g : Nat) (a1 : Int) {R : Type} (k0 : Bool → Option R) : Option R :=
 (bif (decide (a1 ≥ 48)) then k0 (decide (a1 ≤ 57)) else k0 false)
noncomputable def call_isDigit [Fuel] : T_call_isDigit := @call_isDigit_ NN
def SS_call_isDigit (g : T_call_isDigit) : Spec A := fun args => match args with | [.d (.int .u8 a1)] => fun k => g a1 (fun z0 => k (.d (.bool z0)) [.undef]) | _ => fun _ => none
noncomputable def code_195 : Code := (Tryz.f195.body).getD .skip
noncomputable def E_call_isDigit (g : Nat) : Env A := mkE [] [] [] [] [] [] [] [] [] []
theorem sm_call_isDigit (g : Nat) : Same (SS_call_isDigit (@call_isDigit_ g)) (abody (E_call_isDigit g) Tryz.f195 code_195 0 [] [.asis] g) := by intro args; unfold SS_call_isDigit; split; exact .inr fun R k => (by kernel_rfl); exact .inl fun R k => rfl
theorem ok_call_isDigit [Fuel] : Ok 195 (SS_call_isDigit (@call_isDigit _)) := okF_of std .nil ⟨rfl, rfl, by kernel_rfl, rfl, rfl, rfl⟩ (sm_call_isDigit NN) (cuts0 (fun _ => rfl) (by kernel_rfl)) Tryz.func195 (by kernel_rfl) (by kernel_rfl)
abbrev T_call_isPlain : Type 1 := List UInt8 → {R : Type} → (Int → Bool → Option R) → Option R
structure C_call_isPlain where
 N : Nat
 call_isDigit : T_call_isDigit
 call_isLetter : T_call_isLetter
def call_isPlain_L2 (g : C_call_isPlain) : Nat → List UInt8 → Int → Int → Int → {R : Type} → (Int → Bool → Option R) → (Int → Option R) → Option R
 | 0, _, _, _, _, _, _, _ => none
 | n + 1, v2, v3, v4, v5, _, e0, e1 => (bif (decide (v5 < v4)) then (get_ v2 v5 fun x10 => (g.call_isLetter (x10.toNat : Int) (fun r11 => (bif r11 then call_isPlain_L2 g n v2 (w64 (v3 + 1)) v4 (w64 (v5 + 1)) e0 e1 else (get_ v2 v5 fun x12 => (g.call_isDigit (x12.toNat : Int) (fun r13 => (bif (!r13) then e0 0 false else call_isPlain_L2 g n v2 v3 v4 (w64 (v5 + 1)) e0 e1)))))))) else e1 v3)
def call_isPlain_ (g : C_call_isPlain) (a1 : List UInt8) {R : Type} (k0 : Int → Bool → Option R) : Option R :=
 (call_isPlain_L2 g g.N a1 0 (a1.length : Int) 0 (fun e14 e15 => k0 e14 e15) (fun e16 => k0 e16 true))
noncomputable def I_call_isPlain [Fuel] : C_call_isPlain := ⟨NN, @call_isDigit _, @call_isLetter _⟩
noncomputable def call_isPlain [Fuel] : T_call_isPlain := @call_isPlain_ I_call_isPlain
def SS_call_isPlain (g : T_call_isPlain) : Spec A := fun args => match args with | [.d (.str a1)] => fun k => g a1 (fun z0 z1 => k (.tup [.d (.int .i64 z0), .d (.bool z1)]) [.undef]) | _ => fun _ => none
def sh_call_isPlain_L2 : SSt := mkSh 25 0 [(0, .str), (2, .int .i64), (6, .int .i64), (7, .int .i64)] []
def LP_call_isPlain_L2 (g : C_call_isPlain) (n : Nat) : LPT A := fun ps => match ps with | [.d (.str p1), .d (.int .i64 p2), .d (.int .i64 p3), .d (.int .i64 p4)] => fun K => call_isPlain_L2 g n p1 p2 p3 p4 (fun z0 z1 => K .ret (mkSt 25 0 [(2, .d (.int .i64 z0)), (3, .d (.bool z1))] [])) (fun z0 => K (.exit 0) (mkSt 25 0 [(2, .d (.int .i64 z0))] [])) | _ => fun _ => none
noncomputable def code_194 : Code := (Tryz.f194.body).getD .skip
noncomputable def E_call_isPlain (g : C_call_isPlain) : Env A := mkE [(195, SS_call_isDigit g.call_isDigit), (212, SS_call_isLetter g.call_isLetter)] [] [(2, ⟨[0, 2, 6, 7], [], [], []⟩)] [(2, ⟨[2, 3], [], [], []⟩)] [(2, pieceOf sh_call_isPlain_L2 (LP_call_isPlain_L2 g g.N))] [] [] [] [] []
theorem ct_call_isPlain [Fuel] : NatTab (E_call_isPlain I_call_isPlain).C := ct_of (P := Tryz.prog) (T := T) (.cons ok_call_isDigit (.cons ok_call_isLetter .nil)) (by kernel_rfl)
noncomputable def cb_call_isPlain_L2 : Code := sub [1, 0, 1, 0, 0] code_194
theorem s_call_isPlain_L2 (g : C_call_isPlain) (n : Nat) : StepOk (E_call_isPlain g) g.N cb_call_isPlain_L2 sh_call_isPlain_L2 (LP_call_isPlain_L2 g) n := by intro ps; unfold LP_call_isPlain_L2; split; exact .inr fun R K => (by kernel_rfl); exact .inl fun R K => rfl
theorem lf_call_isPlain_L2 [Fuel] : LoopFine (E_call_isPlain I_call_isPlain) NN cb_call_isPlain_L2 := fine_loop sh_call_isPlain_L2 (LP_call_isPlain_L2 I_call_isPlain) (by kernel_rfl) ct_call_isPlain (cuts0 (fun _ => rfl) (by kernel_rfl)) (fun ps R K => by unfold LP_call_isPlain_L2; split <;> (try unfold call_isPlain_L2) <;> rfl) (s_call_isPlain_L2 I_call_isPlain)
theorem sm_call_isPlain (g : C_call_isPlain) : Same (SS_call_isPlain (@call_isPlain_ g)) (abody (E_call_isPlain g) Tryz.f194 code_194 0 [] [.asis, .asis] g.N) := by intro args; unfold SS_call_isPlain; split; exact .inr fun R k => (by kernel_rfl); exact .inl fun R k => rfl
theorem ok_call_isPlain [Fuel] : Ok 194 (SS_call_isPlain (@call_isPlain _)) := okF_of std (.cons ok_call_isDigit (.cons ok_call_isLetter .nil)) ⟨rfl, rfl, by kernel_rfl, rfl, rfl, rfl⟩ (sm_call_isPlain I_call_isPlain) (cutsL (fun _ => rfl) (.cons lf_call_isPlain_L2 .nil) (by kernel_rfl)) Tryz.func194 (by kernel_rfl) (by kernel_rfl)
abbrev T_strings_IndexRune : Type 1 := List UInt8 → Int → {R : Type} → (Int → Option R) → Option R
def strings_IndexRune [Fuel] : T_strings_IndexRune := @X_ixr
def SS_strings_IndexRune (g : T_strings_IndexRune) : Spec A := SSX_ixr g
theorem ok_strings_IndexRune [Fuel] : Ok 183 (SS_strings_IndexRune (@strings_IndexRune _)) := ⟨ssx_ixr_sound (ixr_sound (fun s r w h0 h1 => Any.strings_IndexRune_ascii Tryz.lays152 s r w h0 h1)), ssx_ixr_nat, enters_of (fn := Tryz.f183) Tryz.func183 (by kernel_rfl) (by kernel_rfl)⟩
abbrev T_strings_shouldUseASCIISet : Type 1 := Int → {R : Type} → (Bool → Option R) → Option R
def strings_shouldUseASCIISet_ (g : Nat) (a1 : Int) {R : Type} (k0 : Bool → Option R) : Option R :=
 k0 (decide (a1 > 8))
noncomputable def strings_shouldUseASCIISet [Fuel] : T_strings_shouldUseASCIISet := @strings_shouldUseASCIISet_ NN
def SS_strings_shouldUseASCIISet (g : T_strings_shouldUseASCIISet) : Spec A := fun args => match args with | [.d (.int .i64 a1)] => fun k => g a1 (fun z0 => k (.d (.bool z0)) [.undef]) | _ => fun _ => none
noncomputable def code_210 : Code := (Tryz.f210.body).getD .skip
noncomputable def E_strings_shouldUseASCIISet (g : Nat) : Env A := mkE [] [] [] [] [] [] [] [] [] []
theorem sm_strings_shouldUseASCIISet (g : Nat) : Same (SS_strings_shouldUseASCIISet (@strings_shouldUseASCIISet_ g)) (abody (E_strings_shouldUseASCIISet g) Tryz.f210 code_210 0 [] [.asis] g) := by intro args; unfold SS_strings_shouldUseASCIISet; split; exact .inr fun R k => (by kernel_rfl); exact .inl fun R k => rfl
theorem ok_strings_shouldUseASCIISet [Fuel] : Ok 210 (SS_strings_shouldUseASCIISet (@strings_shouldUseASCIISet _)) := okF_of std .nil ⟨rfl, rfl, by kernel_rfl, rfl, rfl, rfl⟩ (sm_strings_shouldUseASCIISet NN) (cuts0 (fun _ => rfl) (by kernel_rfl)) Tryz.func210 (by kernel_rfl) (by kernel_rfl)
abbrev T_strings_makeASCIISet : Type 1 := List UInt8 → {R : Type} → Option R
def strings_makeASCIISet_ (g : Nat) (a1 : List UInt8) {R : Type}  : Option R :=
 none
noncomputable def strings_makeASCIISet [Fuel] : T_strings_makeASCIISet := @strings_makeASCIISet_ NN
def SS_strings_makeASCIISet (g : T_strings_makeASCIISet) : Spec A := fun args => match args with | [.d (.str a1)] => fun k => g a1 | _ => fun _ => none
noncomputable def code_110 : Code := (Tryz.f110.body).getD .skip
noncomputable def E_strings_makeASCIISet (g : Nat) : Env A := mkE [] [] [] [] [] [] [] [] [] []
noncomputable def cb_strings_makeASCIISet_L2 : Code := sub [1, 0, 1, 0, 0] code_110
theorem lf_strings_makeASCIISet_L2 [Fuel] : LoopFine (E_strings_makeASCIISet NN) NN cb_strings_makeASCIISet_L2 := no_loop (by kernel_rfl)
theorem sm_strings_makeASCIISet (g : Nat) : Same (SS_strings_makeASCIISet (@strings_makeASCIISet_ g)) (abody (E_strings_makeASCIISet g) Tryz.f110 code_110 0 [] [.asis, .asis] g) := by intro args; unfold SS_strings_makeASCIISet; split; exact .inr fun R k => (by kernel_rfl); exact .inl fun R k => rfl
theorem ok_strings_makeASCIISet [Fuel] : Ok 110 (SS_strings_makeASCIISet (@strings_makeASCIISet _)) := okF_of std .nil ⟨rfl, rfl, by kernel_rfl, rfl, rfl, rfl⟩ (sm_strings_makeASCIISet NN) (cutsL (fun _ => rfl) (.cons lf_strings_makeASCIISet_L2 .nil) (by kernel_rfl)) Tryz.func110 (by kernel_rfl) (by kernel_rfl)
abbrev T_utf8_RuneStart : Type 1 := Int → {R : Type} → Option R
def utf8_RuneStart_ (g : Nat) (a1 : Int) {R : Type}  : Option R :=
 none
noncomputable def utf8_RuneStart [Fuel] : T_utf8_RuneStart := @utf8_RuneStart_ NN
def SS_utf8_RuneStart (g : T_utf8_RuneStart) : Spec A := fun args => match args with | [.d (.int .u8 a1)] => fun k => g a1 | _ => fun _ => none
noncomputable def code_184 : Code := (Tryz.f184.body).getD .skip
noncomputable def E_utf8_RuneStart (g : Nat) : Env A := mkE [] [] [] [] [] [] [] [] [] []
theorem sm_utf8_RuneStart (g : Nat) : Same (SS_utf8_RuneStart (@utf8_RuneStart_ g)) (abody (E_utf8_RuneStart g) Tryz.f184 code_184 0 [] [.asis] g) := by intro args; unfold SS_utf8_RuneStart; split; exact .inr fun R k => (by kernel_rfl); exact .inl fun R k => rfl
theorem ok_utf8_RuneStart [Fuel] : Ok 184 (SS_utf8_RuneStart (@utf8_RuneStart _)) := okF_of std .nil ⟨rfl, rfl, by kernel_rfl, rfl, rfl, rfl⟩ (sm_utf8_RuneStart NN) (cuts0 (fun _ => rfl) (by kernel_rfl)) Tryz.func184 (by kernel_rfl) (by kernel_rfl)
abbrev T_utf8_decodeRuneInStringSlow : Type 1 := List UInt8 → {R : Type} → (Int → Int → Option R) → Option R
def utf8_decodeRuneInStringSlow_ (g : Nat) (a1 : List UInt8) {R : Type} (k0 : Int → Int → Option R) : Option R :=
 (bif (decide ((a1.length : Int) < 1)) then k0 65533 0 else (at_ a1 0 fun x2 => none))
noncomputable def utf8_decodeRuneInStringSlow [Fuel] : T_utf8_decodeRuneInStringSlow := @utf8_decodeRuneInStringSlow_ NN
def SS_utf8_decodeRuneInStringSlow (g : T_utf8_decodeRuneInStringSlow) : Spec A := fun args => match args with | [.d (.str a1)] => fun k => g a1 (fun z0 z1 => k (.tup [.d (.int .i32 z0), .d (.int .i64 z1)]) [.undef]) | _ => fun _ => none
noncomputable def code_182 : Code := (Tryz.f182.body).getD .skip
noncomputable def E_utf8_decodeRuneInStringSlow (g : Nat) : Env A := mkE [] [] [] [] [] [] [] [] [] []
theorem sm_utf8_decodeRuneInStringSlow (g : Nat) : Same (SS_utf8_decodeRuneInStringSlow (@utf8_decodeRuneInStringSlow_ g)) (abody (E_utf8_decodeRuneInStringSlow g) Tryz.f182 code_182 0 [] [.asis, .asis] g) := by intro args; unfold SS_utf8_decodeRuneInStringSlow; split; exact .inr fun R k => (by kernel_rfl); exact .inl fun R k => rfl
theorem ok_utf8_decodeRuneInStringSlow [Fuel] : Ok 182 (SS_utf8_decodeRuneInStringSlow (@utf8_decodeRuneInStringSlow _)) := okF_of std .nil ⟨rfl, rfl, by kernel_rfl, rfl, rfl, rfl⟩ (sm_utf8_decodeRuneInStringSlow NN) (cuts0 (fun _ => rfl) (by kernel_rfl)) Tryz.func182 (by kernel_rfl) (by kernel_rfl)
abbrev T_utf8_DecodeRuneInString : Type 1 := List UInt8 → {R : Type} → (Int → Int → Option R) → Option R
structure C_utf8_DecodeRuneInString where
 N : Nat
 utf8_decodeRuneInStringSlow : T_utf8_decodeRuneInStringSlow
def utf8_DecodeRuneInString_ (g : C_utf8_DecodeRuneInString) (a1 : List UInt8) {R : Type} (k0 : Int → Int → Option R) : Option R :=
 (bif (!(a1 == [])) then (at_ a1 0 fun x2 => (bif (decide ((x2.toNat : Int) < 128)) then (at_ a1 0 fun x3 => k0 (IntKind.i32.wrap (x3.toNat : Int)) 1) else (g.utf8_decodeRuneInStringSlow a1 (fun r4 r5 => k0 r4 r5)))) else (g.utf8_decodeRuneInStringSlow a1 (fun r6 r7 => k0 r6 r7)))
noncomputable def I_utf8_DecodeRuneInString [Fuel] : C_utf8_DecodeRuneInString := ⟨NN, @utf8_decodeRuneInStringSlow _⟩
noncomputable def utf8_DecodeRuneInString [Fuel] : T_utf8_DecodeRuneInString := @utf8_DecodeRuneInString_ I_utf8_DecodeRuneInString
def SS_utf8_DecodeRuneInString (g : T_utf8_DecodeRuneInString) : Spec A := fun args => match args with | [.d (.str a1)] => fun k => g a1 (fun z0 z1 => k (.tup [.d (.int .i32 z0), .d (.int .i64 z1)]) [.undef]) | _ => fun _ => none
noncomputable def code_142 : Code := (Tryz.f142.body).getD .skip
noncomputable def E_utf8_DecodeRuneInString (g : C_utf8_DecodeRuneInString) : Env A := mkE [(182, SS_utf8_decodeRuneInStringSlow g.utf8_decodeRuneInStringSlow)] [] [] [] [] [] [] [] [] []
theorem sm_utf8_DecodeRuneInString (g : C_utf8_DecodeRuneInString) : Same (SS_utf8_DecodeRuneInString (@utf8_DecodeRuneInString_ g)) (abody (E_utf8_DecodeRuneInString g) Tryz.f142 code_142 0 [] [.asis, .asis] g.N) := by intro args; unfold SS_utf8_DecodeRuneInString; split; exact .inr fun R k => (by kernel_rfl); exact .inl fun R k => rfl
theorem ok_utf8_DecodeRuneInString [Fuel] : Ok 142 (SS_utf8_DecodeRuneInString (@utf8_DecodeRuneInString _)) := okF_of std (.cons ok_utf8_decodeRuneInStringSlow .nil) ⟨rfl, rfl, by kernel_rfl, rfl, rfl, rfl⟩ (sm_utf8_DecodeRuneInString I_utf8_DecodeRuneInString) (cuts0 (fun _ => rfl) (by kernel_rfl)) Tryz.func142 (by kernel_rfl) (by kernel_rfl)
end Go.Am
