/- The functions of the program as Lean functions, each shown to be what the code computes, part 6. No condition: lemmas for the claim. -/
import Derived.Test.YtomkgnajoccdbaaGreatDoorF0
import Derived.Test.YtomkgnajoccdbaaGreatDoorFSh
import Derived.Test.YtomkgnajoccdbaaGreatDoorF1
import Derived.Test.YtomkgnajoccdbaaGreatDoorF3
import Derived.Test.YtomkgnajoccdbaaGreatDoorF4
import Derived.Test.YtomkgnajoccdbaaGreatDoorF5
set_option linter.unusedVariables false
set_option maxRecDepth 100000
namespace Go.Am
open Go Go.Proofs
abbrev T_band_Nearest : Type 1 := List G_Segment → List G_Busy → List UInt8 → Int → Int → Int → Int → {R : Type} → (Int → Bool → Int → Option R) → Option R
structure C_band_Nearest where
  N : Nat
  kit_Outside : T_kit_Outside
  band_freeFault : T_band_freeFault
  band_free : T_band_free
  band_Nearest_1 : T_band_Nearest_1
def band_Nearest_L9 (g : C_band_Nearest) : Nat → Int → Bool → Int → Int → Int → List G_Row → {R : Type} → (Int → Bool → Option R) → Option R
  | 0, _, _, _, _, _, _, _, _ => none
  | n + 1, v11, v12, v13, v14, v15, v16, _, e0 => (bif (decide (v14 < v13)) then (inr v16 v14 (at_ v16 v14 fun x22 => (bif (!v12) then band_Nearest_L9 g n (if (w64 (x22.f_To - 1)) < (if x22.f_From > v15 then x22.f_From else v15) then (w64 (x22.f_To - 1)) else (if x22.f_From > v15 then x22.f_From else v15)) true v13 (w64 (v14 + 1)) v15 v16 e0 else (g.band_Nearest_1 (if (w64 (x22.f_To - 1)) < (if x22.f_From > v15 then x22.f_From else v15) then (w64 (x22.f_To - 1)) else (if x22.f_From > v15 then x22.f_From else v15)) v15 (fun r23 r24 => (g.band_Nearest_1 v11 r24 (fun r25 r26 => (bif (decide (r23 < r25)) then band_Nearest_L9 g n (if (w64 (x22.f_To - 1)) < (if x22.f_From > v15 then x22.f_From else v15) then (w64 (x22.f_To - 1)) else (if x22.f_From > v15 then x22.f_From else v15)) true v13 (w64 (v14 + 1)) r26 v16 e0 else band_Nearest_L9 g n v11 v12 v13 (w64 (v14 + 1)) r26 v16 e0)))))))) else e0 v11 v12)
def band_Nearest_ (g : C_band_Nearest) (a1 : List G_Segment) (a2 : List G_Busy) (a3 : List UInt8) (a4 a5 a6 a7 : Int) {R : Type} (k0 : Int → Bool → Int → Option R) : Option R :=
  (g.band_freeFault a1 a2 a3 a4 a5 a6 (fun r8 => (bif (r8 != 0) then k0 0 false r8 else (g.kit_Outside a7 0 30000000000 (fun r9 => (bif r9 then k0 0 false 1 else (g.band_free a1 a2 a3 a4 a5 a6 (fun r10 => (band_Nearest_L9 g g.N 0 false (r10.length : Int) 0 a7 r10 (fun e27 e28 => k0 e27 e28 0))))))))))
noncomputable def I_band_Nearest [Fuel] : C_band_Nearest := ⟨NN, @kit_Outside _, @band_freeFault _, @band_free _, @band_Nearest_1 _⟩
noncomputable def band_Nearest [Fuel] : T_band_Nearest := @band_Nearest_ I_band_Nearest
def SS_band_Nearest (g : T_band_Nearest) : Spec A := fun args => match args with | [.d (.sl 115 a1), .d (.sl 120 a2), .d (.str a3), .d (.int .i64 a4), .d (.int .i64 a5), .d (.int .i64 a6), .d (.int .i64 a7)] => fun k => g a1 a2 a3 a4 a5 a6 a7 (fun z0 z1 z2 => k (.tup [.d (.int .i64 z0), .d (.bool z1), .d (.int .i64 z2)]) [.undef, .undef, .undef, .undef, .undef, .undef, .undef]) | _ => fun _ => none
def sh_band_Nearest_L9 : SSt := mkSh 72 3 [(13, .ptr 0 0), (18, .int .i64), (19, .bool), (20, .fn 89 [.ptr 0 0]), (43, .own 80 1), (44, .int .i64), (45, .int .i64)] [(0, .box [.int .i64]), (1, .row 80)]
def LP_band_Nearest_L9 (g : C_band_Nearest) (n : Nat) : LPT A := fun ps => match ps with | [.d (.int .i64 p1), .d (.bool p2), .d (.int .i64 p3), .d (.int .i64 p4), .d (.int .i64 p5), .d (.sl 80 p6)] => fun K => band_Nearest_L9 g n p1 p2 p3 p4 p5 p6 (fun z0 z1 => K (.exit 0) (mkSt 72 3 [(18, .d (.int .i64 z0)), (19, .d (.bool z1))] [])) | _ => fun _ => none
noncomputable def code_31 : Code := (Tryz.f31.body).getD .skip
noncomputable def E_band_Nearest (g : C_band_Nearest) : Env A := mkE [(57, SS_kit_Outside g.kit_Outside), (87, SS_band_freeFault g.band_freeFault), (88, SS_band_free g.band_free), (89, SS_band_Nearest_1 g.band_Nearest_1)] [(13, [0]), (22, [2]), (43, [1])] [(9, ⟨[13, 18, 19, 20, 43, 44, 45], [], [0, 1], []⟩)] [(9, ⟨[18, 19], [], [], []⟩)] [(9, pieceOf sh_band_Nearest_L9 (LP_band_Nearest_L9 g g.N))] [] [] [] [] []
theorem ct_band_Nearest [Fuel] : NatTab (E_band_Nearest I_band_Nearest).C := ct_of (P := Tryz.prog) (T := T) (.cons ok_kit_Outside (.cons ok_band_freeFault (.cons ok_band_free (.cons ok_band_Nearest_1 .nil)))) (by kernel_rfl)
noncomputable def cb_band_Nearest_L9 : Code := sub [1, 1, 1, 1, 1, 0, 1, 0, 0] code_31
theorem s_band_Nearest_L9 (g : C_band_Nearest) (n : Nat) : StepOk (E_band_Nearest g) g.N cb_band_Nearest_L9 sh_band_Nearest_L9 (LP_band_Nearest_L9 g) n := by intro ps; unfold LP_band_Nearest_L9; split; exact .inr fun R K => (by kernel_rfl); exact .inl fun R K => rfl
theorem lf_band_Nearest_L9 [Fuel] : LoopFine (E_band_Nearest I_band_Nearest) NN cb_band_Nearest_L9 := fine_loop sh_band_Nearest_L9 (LP_band_Nearest_L9 I_band_Nearest) (by kernel_rfl) ct_band_Nearest (cuts0 (fun _ => rfl) (by kernel_rfl)) (fun ps R K => by unfold LP_band_Nearest_L9; split <;> (try unfold band_Nearest_L9) <;> rfl) (s_band_Nearest_L9 I_band_Nearest)
theorem sm_band_Nearest (g : C_band_Nearest) : Same (SS_band_Nearest (@band_Nearest_ g)) (abody (E_band_Nearest g) Tryz.f31 code_31 3 [] [.asis, .asis, .asis] g.N) := by intro args; unfold SS_band_Nearest; split; exact .inr fun R k => (by kernel_rfl); exact .inl fun R k => rfl
theorem ok_band_Nearest [Fuel] : Ok 31 (SS_band_Nearest (@band_Nearest _)) := okF_of std (.cons ok_kit_Outside (.cons ok_band_freeFault (.cons ok_band_free (.cons ok_band_Nearest_1 .nil)))) ⟨rfl, rfl, by kernel_rfl, rfl, rfl, rfl⟩ (sm_band_Nearest I_band_Nearest) (cutsL (fun _ => rfl) (.cons lf_band_Nearest_L9 .nil) (by kernel_rfl)) Tryz.func31 (by kernel_rfl) (by kernel_rfl)
abbrev T_band_Fewest : Type 1 := List G_Busy → {R : Type} → (Int → Int → Option R) → Option R
structure C_band_Fewest where
  N : Nat
  band_CheckBusy : T_band_CheckBusy
  kit_Has : T_kit_Has
def band_Fewest_L10 (g : C_band_Fewest) : Nat → List G_Busy → Int → Int → List G_Busy → Int → Int → List G_Busy → Int → Int → G_Busy → {R : Type} → (List G_Busy → Int → Int → List G_Busy → Int → Int → Option R) → Option R
  | 0, _, _, _, _, _, _, _, _, _, _, _, _ => none
  | n + 1, v30, v31, v32, v33, v34, v35, v36, v37, v38, v39, _, e0 => (bif (decide (v38 < v37)) then (get_ v36 v38 fun x42 => (g.kit_Has x42.f_Time v39.f_Time.f_From (fun r43 => (bif r43 then band_Fewest_L10 g n v30 v31 (w64 (v32 + 1)) v33 v34 v35 v36 v37 (w64 (v38 + 1)) v39 e0 else band_Fewest_L10 g n v30 v31 v32 v33 v34 v35 v36 v37 (w64 (v38 + 1)) v39 e0)))) else e0 v30 v31 v32 v33 v34 v35)
def band_Fewest_L6 (g : C_band_Fewest) : Nat → List G_Busy → Int → List G_Busy → Int → Int → {R : Type} → (Int → Option R) → Option R
  | 0, _, _, _, _, _, _, _ => none
  | n + 1, v3, v4, v5, v6, v7, _, e0 => (bif (decide (v7 < v6)) then (get_ v5 v7 fun x29 => (band_Fewest_L10 g g.N v3 v4 0 v5 v6 v7 v3 (v3.length : Int) 0 x29 (fun e44 e45 e46 e47 e48 e49 => band_Fewest_L6 g n e44 (if e46 > e45 then e46 else e45) e47 e48 (w64 (e49 + 1)) e0))) else e0 v4)
def band_Fewest_ (g : C_band_Fewest) (a1 : List G_Busy) {R : Type} (k0 : Int → Int → Option R) : Option R :=
  (g.band_CheckBusy a1 (fun r2 => (bif (r2 != 0) then k0 0 r2 else (band_Fewest_L6 g g.N a1 0 a1 (a1.length : Int) 0 (fun e50 => k0 e50 0)))))
noncomputable def I_band_Fewest [Fuel] : C_band_Fewest := ⟨NN, @band_CheckBusy _, @kit_Has _⟩
noncomputable def band_Fewest [Fuel] : T_band_Fewest := @band_Fewest_ I_band_Fewest
def SS_band_Fewest (g : T_band_Fewest) : Spec A := fun args => match args with | [.d (.sl 120 a1)] => fun k => g a1 (fun z0 z1 => k (.tup [.d (.int .i64 z0), .d (.int .i64 z1)]) [.undef]) | _ => fun _ => none
def sh_band_Fewest_L10 : SSt := mkSh 42 2 [(0, .sl 120), (5, .int .i64), (7, .ptr 0 0), (8, .int .i64), (16, .sl 120), (17, .int .i64), (18, .int .i64), (22, .sl 120), (23, .int .i64), (24, .int .i64)] [(0, .box [.str, .int .i64, .int .i64, .int .i64, .int .i64])]
def LP_band_Fewest_L10 (g : C_band_Fewest) (n : Nat) : LPT A := fun ps => match ps with | [.d (.sl 120 p1), .d (.int .i64 p2), .d (.int .i64 p3), .d (.sl 120 p4), .d (.int .i64 p5), .d (.int .i64 p6), .d (.sl 120 p7), .d (.int .i64 p8), .d (.int .i64 p9), .d (.str p10), .d (.int .i64 p11), .d (.int .i64 p12), .d (.int .i64 p13), .d (.int .i64 p14)] => fun K => band_Fewest_L10 g n p1 p2 p3 p4 p5 p6 p7 p8 p9 ⟨p10, p11, p12, ⟨p13, p14⟩⟩ (fun z0 z1 z2 z3 z4 z5 => K (.exit 2) (mkSt 42 2 [(0, .d (.sl 120 z0)), (5, .d (.int .i64 z1)), (8, .d (.int .i64 z2)), (16, .d (.sl 120 z3)), (17, .d (.int .i64 z4)), (18, .d (.int .i64 z5))] [])) | _ => fun _ => none
def sh_band_Fewest_L6 : SSt := mkSh 42 2 [(0, .sl 120), (5, .int .i64), (16, .sl 120), (17, .int .i64), (18, .int .i64)] []
def LP_band_Fewest_L6 (g : C_band_Fewest) (n : Nat) : LPT A := fun ps => match ps with | [.d (.sl 120 p1), .d (.int .i64 p2), .d (.sl 120 p3), .d (.int .i64 p4), .d (.int .i64 p5)] => fun K => band_Fewest_L6 g n p1 p2 p3 p4 p5 (fun z0 => K (.exit 0) (mkSt 42 2 [(5, .d (.int .i64 z0))] [])) | _ => fun _ => none
noncomputable def code_32 : Code := (Tryz.f32.body).getD .skip
noncomputable def E_band_Fewest (g : C_band_Fewest) : Env A := mkE [(43, SS_band_CheckBusy g.band_CheckBusy), (90, SS_kit_Has g.kit_Has)] [(7, [0]), (10, [1])] [(10, ⟨[0, 5, 7, 8, 16, 17, 18, 22, 23, 24], [], [0], []⟩), (6, ⟨[0, 5, 16, 17, 18], [], [], []⟩)] [(10, ⟨[0, 5, 8, 16, 17, 18], [], [], []⟩), (6, ⟨[5], [], [], []⟩)] [(10, pieceOf sh_band_Fewest_L10 (LP_band_Fewest_L10 g g.N)), (6, pieceOf sh_band_Fewest_L6 (LP_band_Fewest_L6 g g.N))] [] [] [] [] []
theorem ct_band_Fewest [Fuel] : NatTab (E_band_Fewest I_band_Fewest).C := ct_of (P := Tryz.prog) (T := T) (.cons ok_band_CheckBusy (.cons ok_kit_Has .nil)) (by kernel_rfl)
noncomputable def cb_band_Fewest_L10 : Code := sub [1, 1, 1, 0, 1, 0, 0, 1, 1, 0, 0, 1, 1, 0, 1, 0, 0] code_32
theorem s_band_Fewest_L10 (g : C_band_Fewest) (n : Nat) : StepOk (E_band_Fewest g) g.N cb_band_Fewest_L10 sh_band_Fewest_L10 (LP_band_Fewest_L10 g) n := by intro ps; unfold LP_band_Fewest_L10; split; exact .inr fun R K => (by kernel_rfl); exact .inl fun R K => rfl
theorem lf_band_Fewest_L10 [Fuel] : LoopFine (E_band_Fewest I_band_Fewest) NN cb_band_Fewest_L10 := fine_loop sh_band_Fewest_L10 (LP_band_Fewest_L10 I_band_Fewest) (by kernel_rfl) ct_band_Fewest (cuts0 (fun _ => rfl) (by kernel_rfl)) (fun ps R K => by unfold LP_band_Fewest_L10; split <;> (try unfold band_Fewest_L10) <;> rfl) (s_band_Fewest_L10 I_band_Fewest)
noncomputable def cb_band_Fewest_L6 : Code := sub [1, 1, 1, 0, 1, 0, 0] code_32
theorem s_band_Fewest_L6 (g : C_band_Fewest) (n : Nat) : StepOk (E_band_Fewest g) g.N cb_band_Fewest_L6 sh_band_Fewest_L6 (LP_band_Fewest_L6 g) n := by intro ps; unfold LP_band_Fewest_L6; split; exact .inr fun R K => (by kernel_rfl); exact .inl fun R K => rfl
theorem lf_band_Fewest_L6 [Fuel] : LoopFine (E_band_Fewest I_band_Fewest) NN cb_band_Fewest_L6 := fine_loop sh_band_Fewest_L6 (LP_band_Fewest_L6 I_band_Fewest) (by kernel_rfl) ct_band_Fewest (cutsL (fun _ => rfl) (.cons lf_band_Fewest_L10 .nil) (by kernel_rfl)) (fun ps R K => by unfold LP_band_Fewest_L6; split <;> (try unfold band_Fewest_L6) <;> rfl) (s_band_Fewest_L6 I_band_Fewest)
theorem sm_band_Fewest (g : C_band_Fewest) : Same (SS_band_Fewest (@band_Fewest_ g)) (abody (E_band_Fewest g) Tryz.f32 code_32 2 [] [.asis, .asis] g.N) := by intro args; unfold SS_band_Fewest; split; exact .inr fun R k => (by kernel_rfl); exact .inl fun R k => rfl
theorem ok_band_Fewest [Fuel] : Ok 32 (SS_band_Fewest (@band_Fewest _)) := okF_of std (.cons ok_band_CheckBusy (.cons ok_kit_Has .nil)) ⟨rfl, rfl, by kernel_rfl, rfl, rfl, rfl⟩ (sm_band_Fewest I_band_Fewest) (cutsL (fun _ => rfl) (.cons lf_band_Fewest_L10 (.cons lf_band_Fewest_L6 .nil)) (by kernel_rfl)) Tryz.func32 (by kernel_rfl) (by kernel_rfl)
abbrev T_R_in : Type 1 := Int → Int → Int → {R : Type} → (Bool → Option R) → Option R
def R_in_ (g : Nat) (a1 a2 a3 : Int) {R : Type} (k0 : Bool → Option R) : Option R :=
  (bif (decide (a2 ≤ a1)) then k0 (decide (a1 ≤ a3)) else k0 false)
noncomputable def R_in [Fuel] : T_R_in := @R_in_ NN
def SS_R_in (g : T_R_in) : Spec A := fun args => match args with | [.d (.int .i64 a1), .d (.int .i64 a2), .d (.int .i64 a3)] => fun k => g a1 a2 a3 (fun z0 => k (.d (.bool z0)) [.undef, .undef, .undef]) | _ => fun _ => none
noncomputable def code_215 : Code := (Tryz.f215.body).getD .skip
noncomputable def E_R_in (g : Nat) : Env A := mkE [] [] [] [] [] [] [] [] [] []
theorem sm_R_in (g : Nat) : Same (SS_R_in (@R_in_ g)) (abody (E_R_in g) Tryz.f215 code_215 0 [] [.asis] g) := by intro args; unfold SS_R_in; split; exact .inr fun R k => (by kernel_rfl); exact .inl fun R k => rfl
theorem ok_R_in [Fuel] : Ok 215 (SS_R_in (@R_in _)) := okF_of std .nil ⟨rfl, rfl, by kernel_rfl, rfl, rfl, rfl⟩ (sm_R_in NN) (cuts0 (fun _ => rfl) (by kernel_rfl)) Tryz.func215 (by kernel_rfl) (by kernel_rfl)
abbrev T_strings_ContainsAny : Type 1 := List UInt8 → List UInt8 → {R : Type} → (Bool → Option R) → Option R
def strings_ContainsAny [Fuel] : T_strings_ContainsAny := @X_cany
def SS_strings_ContainsAny (g : T_strings_ContainsAny) : Spec A := SSX_cany g
theorem ok_strings_ContainsAny [Fuel] : Ok 216 (SS_strings_ContainsAny (@strings_ContainsAny _)) := ⟨ssx_cany_sound (cany_sound rfl (fun s cs w h1 h2 h3 h4 => Any.strings_ContainsAny_laid Tryz.lays150 (by kernel_rfl) s cs w h1 h2 h3 h4)), ssx_cany_nat, enters_of (fn := Tryz.f216) Tryz.func216 (by kernel_rfl) (by kernel_rfl)⟩
abbrev T_R_plain : Type 1 := List UInt8 → Int → Int → {R : Type} → (Bool → Option R) → Option R
structure C_R_plain where
  N : Nat
  strings_Trim : T_strings_Trim
  R_in : T_R_in
  strings_ContainsAny : T_strings_ContainsAny
def R_plain_ (g : C_R_plain) (a1 : List UInt8) (a2 a3 : Int) {R : Type} (k0 : Bool → Option R) : Option R :=
  (g.R_in (a1.length : Int) a2 a3 (fun r4 => (bif r4 then (g.strings_Trim a1 [97, 98, 99, 100, 101, 102, 103, 104, 105, 106, 107, 108, 109, 110, 111, 112, 113, 114, 115, 116, 117, 118, 119, 120, 121, 122, 48, 49, 50, 51, 52, 53, 54, 55, 56, 57] (fun r5 => (bif (r5 == []) then (g.strings_ContainsAny a1 [97, 98, 99, 100, 101, 102, 103, 104, 105, 106, 107, 108, 109, 110, 111, 112, 113, 114, 115, 116, 117, 118, 119, 120, 121, 122] (fun r6 => k0 r6)) else k0 false))) else k0 false)))
noncomputable def I_R_plain [Fuel] : C_R_plain := ⟨NN, @strings_Trim _, @R_in _, @strings_ContainsAny _⟩
noncomputable def R_plain [Fuel] : T_R_plain := @R_plain_ I_R_plain
def SS_R_plain (g : T_R_plain) : Spec A := fun args => match args with | [.d (.str a1), .d (.int .i64 a2), .d (.int .i64 a3)] => fun k => g a1 a2 a3 (fun z0 => k (.d (.bool z0)) [.undef, .undef, .undef]) | _ => fun _ => none
noncomputable def code_214 : Code := (Tryz.f214.body).getD .skip
noncomputable def E_R_plain (g : C_R_plain) : Env A := mkE [(103, SS_strings_Trim g.strings_Trim), (215, SS_R_in g.R_in), (216, SS_strings_ContainsAny g.strings_ContainsAny)] [] [] [] [] [] [] [] [] []
theorem sm_R_plain (g : C_R_plain) : Same (SS_R_plain (@R_plain_ g)) (abody (E_R_plain g) Tryz.f214 code_214 0 [] [.asis] g.N) := by intro args; unfold SS_R_plain; split; exact .inr fun R k => (by kernel_rfl); exact .inl fun R k => rfl
theorem ok_R_plain [Fuel] : Ok 214 (SS_R_plain (@R_plain _)) := okF_of std (.cons ok_strings_Trim (.cons ok_R_in (.cons ok_strings_ContainsAny .nil))) ⟨rfl, rfl, by kernel_rfl, rfl, rfl, rfl⟩ (sm_R_plain I_R_plain) (cuts0 (fun _ => rfl) (by kernel_rfl)) Tryz.func214 (by kernel_rfl) (by kernel_rfl)
abbrev T_R_baseAt : Type 1 := List UInt8 → {R : Type} → (Int → Option R) → Option R
structure C_R_baseAt where
  N : Nat
  strings_LastIndexAny : T_strings_LastIndexAny
  R_plain : T_R_plain
  R_in : T_R_in
  strings_ContainsAny : T_strings_ContainsAny
def R_baseAt_ (g : C_R_baseAt) (a1 : List UInt8) {R : Type} (k0 : Int → Option R) : Option R :=
  (g.strings_LastIndexAny a1 [48, 49, 50, 51, 52, 53, 54, 55, 56, 57] (fun r2 => (g.R_plain a1 3 10 (fun r3 => (bif (!r3) then k0 (-1) else (g.R_in r2 1 3 (fun r4 => (bif (!r4) then k0 (-1) else (g.R_in (w64 ((w64 ((a1.length : Int) - 1)) - r2)) 1 4 (fun r5 => (bif (!r5) then k0 (-1) else (bif (decide (0 ≤ r2) && decide (r2 ≤ (a1.length : Int))) then (g.strings_ContainsAny (a1.take (r2 : Int).toNat) [97, 98, 99, 100, 101, 102, 103, 104, 105, 106, 107, 108, 109, 110, 111, 112, 113, 114, 115, 116, 117, 118, 119, 120, 121, 122] (fun r6 => (bif (!r6) then k0 (-1) else k0 r2))) else none))))))))))))
noncomputable def I_R_baseAt [Fuel] : C_R_baseAt := ⟨NN, @strings_LastIndexAny _, @R_plain _, @R_in _, @strings_ContainsAny _⟩
noncomputable def R_baseAt [Fuel] : T_R_baseAt := @R_baseAt_ I_R_baseAt
def SS_R_baseAt (g : T_R_baseAt) : Spec A := fun args => match args with | [.d (.str a1)] => fun k => g a1 (fun z0 => k (.d (.int .i64 z0)) [.undef]) | _ => fun _ => none
noncomputable def code_170 : Code := (Tryz.f170.body).getD .skip
noncomputable def E_R_baseAt (g : C_R_baseAt) : Env A := mkE [(213, SS_strings_LastIndexAny g.strings_LastIndexAny), (214, SS_R_plain g.R_plain), (215, SS_R_in g.R_in), (216, SS_strings_ContainsAny g.strings_ContainsAny)] [] [] [] [] [] [] [] [] []
theorem sm_R_baseAt (g : C_R_baseAt) : Same (SS_R_baseAt (@R_baseAt_ g)) (abody (E_R_baseAt g) Tryz.f170 code_170 0 [] [.asis] g.N) := by intro args; unfold SS_R_baseAt; split; exact .inr fun R k => (by kernel_rfl); exact .inl fun R k => rfl
theorem ok_R_baseAt [Fuel] : Ok 170 (SS_R_baseAt (@R_baseAt _)) := okF_of std (.cons ok_strings_LastIndexAny (.cons ok_R_plain (.cons ok_R_in (.cons ok_strings_ContainsAny .nil)))) ⟨rfl, rfl, by kernel_rfl, rfl, rfl, rfl⟩ (sm_R_baseAt I_R_baseAt) (cuts0 (fun _ => rfl) (by kernel_rfl)) Tryz.func170 (by kernel_rfl) (by kernel_rfl)
abbrev T_R_PartsOf_1 : Type 1 := List UInt8 → {R : Type} → (G_Parts → Option R) → Option R
structure C_R_PartsOf_1 where
  N : Nat
  R_baseAt : T_R_baseAt
def R_PartsOf_1_ (g : C_R_PartsOf_1) (a1 : List UInt8) {R : Type} (k0 : G_Parts → Option R) : Option R :=
  (g.R_baseAt a1 (fun r2 => (bif (decide (0 ≤ (w64 (r2 + 1))) && decide ((w64 (r2 + 1)) ≤ (a1.length : Int))) then (bif (decide (0 ≤ (w64 (r2 + 1))) && decide ((w64 (r2 + 1)) ≤ (a1.length : Int))) then k0 (⟨a1, (a1.take ((w64 (r2 + 1)) : Int).toNat), (a1.drop ((w64 (r2 + 1)) : Int).toNat), 0, []⟩ : G_Parts) else none) else none)))
noncomputable def I_R_PartsOf_1 [Fuel] : C_R_PartsOf_1 := ⟨NN, @R_baseAt _⟩
noncomputable def R_PartsOf_1 [Fuel] : T_R_PartsOf_1 := @R_PartsOf_1_ I_R_PartsOf_1
def SS_R_PartsOf_1 (g : T_R_PartsOf_1) : Spec A := fun args => match args with | [.d (.str a1)] => fun k => g a1 (fun z0 => k (.agg [.d (.str z0.f_Base), .d (.str z0.f_Prefix), .d (.str z0.f_Suffix), .d (.int .i64 z0.f_Kind), .d (.str z0.f_Added)]) [.undef]) | _ => fun _ => none
noncomputable def code_169 : Code := (Tryz.f169.body).getD .skip
noncomputable def E_R_PartsOf_1 (g : C_R_PartsOf_1) : Env A := mkE [(170, SS_R_baseAt g.R_baseAt)] [(2, [0])] [] [] [] [] [] [] [] []
theorem sm_R_PartsOf_1 (g : C_R_PartsOf_1) : Same (SS_R_PartsOf_1 (@R_PartsOf_1_ g)) (abody (E_R_PartsOf_1 g) Tryz.f169 code_169 1 [] [.asis] g.N) := by intro args; unfold SS_R_PartsOf_1; split; exact .inr fun R k => (by kernel_rfl); exact .inl fun R k => rfl
theorem ok_R_PartsOf_1 [Fuel] : Ok 169 (SS_R_PartsOf_1 (@R_PartsOf_1 _)) := okF_of std (.cons ok_R_baseAt .nil) ⟨rfl, rfl, by kernel_rfl, rfl, rfl, rfl⟩ (sm_R_PartsOf_1 I_R_PartsOf_1) (cuts0 (fun _ => rfl) (by kernel_rfl)) Tryz.func169 (by kernel_rfl) (by kernel_rfl)
abbrev T_R_begin : Type 1 := List UInt8 → {R : Type} → (Bool → Option R) → Option R
structure C_R_begin where
  N : Nat
  R_plain : T_R_plain
def R_begin_ (g : C_R_begin) (a1 : List UInt8) {R : Type} (k0 : Bool → Option R) : Option R :=
  (g.R_plain a1 1 4 (fun r2 => k0 r2))
noncomputable def I_R_begin [Fuel] : C_R_begin := ⟨NN, @R_plain _⟩
noncomputable def R_begin [Fuel] : T_R_begin := @R_begin_ I_R_begin
def SS_R_begin (g : T_R_begin) : Spec A := fun args => match args with | [.d (.str a1)] => fun k => g a1 (fun z0 => k (.d (.bool z0)) [.undef]) | _ => fun _ => none
noncomputable def code_171 : Code := (Tryz.f171.body).getD .skip
noncomputable def E_R_begin (g : C_R_begin) : Env A := mkE [(214, SS_R_plain g.R_plain)] [] [] [] [] [] [] [] [] []
theorem sm_R_begin (g : C_R_begin) : Same (SS_R_begin (@R_begin_ g)) (abody (E_R_begin g) Tryz.f171 code_171 0 [] [.asis] g.N) := by intro args; unfold SS_R_begin; split; exact .inr fun R k => (by kernel_rfl); exact .inl fun R k => rfl
theorem ok_R_begin [Fuel] : Ok 171 (SS_R_begin (@R_begin _)) := okF_of std (.cons ok_R_plain .nil) ⟨rfl, rfl, by kernel_rfl, rfl, rfl, rfl⟩ (sm_R_begin I_R_begin) (cuts0 (fun _ => rfl) (by kernel_rfl)) Tryz.func171 (by kernel_rfl) (by kernel_rfl)
abbrev T_strings_Index : Type 1 := List UInt8 → List UInt8 → {R : Type} → (Int → Option R) → Option R
structure C_strings_Index where
  N : Nat
  stringslite_Index : T_stringslite_Index
def strings_Index_ (g : C_strings_Index) (a1 a2 : List UInt8) {R : Type} (k0 : Int → Option R) : Option R :=
  (g.stringslite_Index a1 a2 (fun r3 => k0 r3))
noncomputable def I_strings_Index [Fuel] : C_strings_Index := ⟨NN, @stringslite_Index _⟩
noncomputable def strings_Index [Fuel] : T_strings_Index := @strings_Index_ I_strings_Index
def SS_strings_Index (g : T_strings_Index) : Spec A := fun args => match args with | [.d (.str a1), .d (.str a2)] => fun k => g a1 a2 (fun z0 => k (.d (.int .i64 z0)) [.undef, .undef]) | _ => fun _ => none
noncomputable def code_217 : Code := (Tryz.f217.body).getD .skip
noncomputable def E_strings_Index (g : C_strings_Index) : Env A := mkE [(227, SS_stringslite_Index g.stringslite_Index)] [] [] [] [] [] [] [] [] []
theorem sm_strings_Index (g : C_strings_Index) : Same (SS_strings_Index (@strings_Index_ g)) (abody (E_strings_Index g) Tryz.f217 code_217 0 [] [.asis] g.N) := by intro args; unfold SS_strings_Index; split; exact .inr fun R k => (by kernel_rfl); exact .inl fun R k => rfl
theorem ok_strings_Index [Fuel] : Ok 217 (SS_strings_Index (@strings_Index _)) := okF_of std (.cons ok_stringslite_Index .nil) ⟨rfl, rfl, by kernel_rfl, rfl, rfl, rfl⟩ (sm_strings_Index I_strings_Index) (cuts0 (fun _ => rfl) (by kernel_rfl)) Tryz.func217 (by kernel_rfl) (by kernel_rfl)
abbrev T_strings_Contains : Type 1 := List UInt8 → List UInt8 → {R : Type} → (Bool → Option R) → Option R
structure C_strings_Contains where
  N : Nat
  strings_Index : T_strings_Index
def strings_Contains_ (g : C_strings_Contains) (a1 a2 : List UInt8) {R : Type} (k0 : Bool → Option R) : Option R :=
  (g.strings_Index a1 a2 (fun r3 => k0 (decide (r3 ≥ 0))))
noncomputable def I_strings_Contains [Fuel] : C_strings_Contains := ⟨NN, @strings_Index _⟩
noncomputable def strings_Contains [Fuel] : T_strings_Contains := @strings_Contains_ I_strings_Contains
def SS_strings_Contains (g : T_strings_Contains) : Spec A := fun args => match args with | [.d (.str a1), .d (.str a2)] => fun k => g a1 a2 (fun z0 => k (.d (.bool z0)) [.undef, .undef]) | _ => fun _ => none
noncomputable def code_172 : Code := (Tryz.f172.body).getD .skip
noncomputable def E_strings_Contains (g : C_strings_Contains) : Env A := mkE [(217, SS_strings_Index g.strings_Index)] [] [] [] [] [] [] [] [] []
theorem sm_strings_Contains (g : C_strings_Contains) : Same (SS_strings_Contains (@strings_Contains_ g)) (abody (E_strings_Contains g) Tryz.f172 code_172 0 [] [.asis] g.N) := by intro args; unfold SS_strings_Contains; split; exact .inr fun R k => (by kernel_rfl); exact .inl fun R k => rfl
theorem ok_strings_Contains [Fuel] : Ok 172 (SS_strings_Contains (@strings_Contains _)) := okF_of std (.cons ok_strings_Index .nil) ⟨rfl, rfl, by kernel_rfl, rfl, rfl, rfl⟩ (sm_strings_Contains I_strings_Contains) (cuts0 (fun _ => rfl) (by kernel_rfl)) Tryz.func172 (by kernel_rfl) (by kernel_rfl)
abbrev T_R_PartsOf : Type 1 := List UInt8 → {R : Type} → (G_Parts → Bool → Option R) → Option R
structure C_R_PartsOf where
  N : Nat
  strings_Cut : T_strings_Cut
  R_PartsOf_1 : T_R_PartsOf_1
  R_baseAt : T_R_baseAt
  R_begin : T_R_begin
  strings_Contains : T_strings_Contains
def R_PartsOf_ (g : C_R_PartsOf) (a1 : List UInt8) {R : Type} (k0 : G_Parts → Bool → Option R) : Option R :=
  (g.strings_Cut a1 [47] (fun r2 r3 r4 => (bif (decide ((a1.length : Int) > 14)) then k0 (⟨[], [], [], 0, []⟩ : G_Parts) false else (bif (!r4) then (g.R_baseAt r2 (fun r5 => (bif (decide (r5 < 0)) then k0 (⟨[], [], [], 0, []⟩ : G_Parts) false else (g.R_PartsOf_1 r2 (fun r6 => k0 r6 true))))) else (g.R_baseAt r3 (fun r7 => (bif (decide (r7 ≥ 0)) then (g.R_begin r2 (fun r8 => (bif r8 then (g.R_PartsOf_1 r3 (fun r9 => k0 (⟨r9.f_Base, r9.f_Prefix, r9.f_Suffix, 1, r2⟩ : G_Parts) true)) else (g.R_baseAt r2 (fun r10 => (bif (decide (r10 < 0)) then k0 (⟨[], [], [], 0, []⟩ : G_Parts) false else (g.R_PartsOf_1 r2 (fun r11 => (bif (r3 == [112]) then k0 (⟨r11.f_Base, r11.f_Prefix, r11.f_Suffix, 3, r11.f_Added⟩ : G_Parts) true else (bif (r3 == [109]) then k0 (⟨r11.f_Base, r11.f_Prefix, r11.f_Suffix, 4, r11.f_Added⟩ : G_Parts) true else (bif (r3 == [109, 109]) then k0 (⟨r11.f_Base, r11.f_Prefix, r11.f_Suffix, 5, r11.f_Added⟩ : G_Parts) true else (bif (r3 == [97, 109]) then k0 (⟨r11.f_Base, r11.f_Prefix, r11.f_Suffix, 6, r11.f_Added⟩ : G_Parts) true else (bif ((r3.length : Int) == 1) then (g.strings_Contains [48, 49, 50, 51, 52, 53, 54, 55, 56, 57] r3 (fun r12 => (bif r12 then k0 (⟨r11.f_Base, r11.f_Prefix, r11.f_Suffix, 2, r3⟩ : G_Parts) true else (g.R_begin r3 (fun r13 => (bif r13 then k0 (⟨r11.f_Base, r11.f_Prefix, r11.f_Suffix, 1, r3⟩ : G_Parts) true else k0 (⟨[], [], [], 0, []⟩ : G_Parts) false)))))) else (g.R_begin r3 (fun r14 => (bif r14 then k0 (⟨r11.f_Base, r11.f_Prefix, r11.f_Suffix, 1, r3⟩ : G_Parts) true else k0 (⟨[], [], [], 0, []⟩ : G_Parts) false)))))))))))))))) else (g.R_baseAt r2 (fun r15 => (bif (decide (r15 < 0)) then k0 (⟨[], [], [], 0, []⟩ : G_Parts) false else (g.R_PartsOf_1 r2 (fun r16 => (bif (r3 == [112]) then k0 (⟨r16.f_Base, r16.f_Prefix, r16.f_Suffix, 3, r16.f_Added⟩ : G_Parts) true else (bif (r3 == [109]) then k0 (⟨r16.f_Base, r16.f_Prefix, r16.f_Suffix, 4, r16.f_Added⟩ : G_Parts) true else (bif (r3 == [109, 109]) then k0 (⟨r16.f_Base, r16.f_Prefix, r16.f_Suffix, 5, r16.f_Added⟩ : G_Parts) true else (bif (r3 == [97, 109]) then k0 (⟨r16.f_Base, r16.f_Prefix, r16.f_Suffix, 6, r16.f_Added⟩ : G_Parts) true else (bif ((r3.length : Int) == 1) then (g.strings_Contains [48, 49, 50, 51, 52, 53, 54, 55, 56, 57] r3 (fun r17 => (bif r17 then k0 (⟨r16.f_Base, r16.f_Prefix, r16.f_Suffix, 2, r3⟩ : G_Parts) true else (g.R_begin r3 (fun r18 => (bif r18 then k0 (⟨r16.f_Base, r16.f_Prefix, r16.f_Suffix, 1, r3⟩ : G_Parts) true else k0 (⟨[], [], [], 0, []⟩ : G_Parts) false)))))) else (g.R_begin r3 (fun r19 => (bif r19 then k0 (⟨r16.f_Base, r16.f_Prefix, r16.f_Suffix, 1, r3⟩ : G_Parts) true else k0 (⟨[], [], [], 0, []⟩ : G_Parts) false))))))))))))))))))))
noncomputable def I_R_PartsOf [Fuel] : C_R_PartsOf := ⟨NN, @strings_Cut _, @R_PartsOf_1 _, @R_baseAt _, @R_begin _, @strings_Contains _⟩
noncomputable def R_PartsOf [Fuel] : T_R_PartsOf := @R_PartsOf_ I_R_PartsOf
def SS_R_PartsOf (g : T_R_PartsOf) : Spec A := fun args => match args with | [.d (.str a1)] => fun k => g a1 (fun z0 z1 => k (.tup [.agg [.d (.str z0.f_Base), .d (.str z0.f_Prefix), .d (.str z0.f_Suffix), .d (.int .i64 z0.f_Kind), .d (.str z0.f_Added)], .d (.bool z1)]) [.undef]) | _ => fun _ => none
noncomputable def code_113 : Code := (Tryz.f113.body).getD .skip
noncomputable def E_R_PartsOf (g : C_R_PartsOf) : Env A := mkE [(155, SS_strings_Cut g.strings_Cut), (169, SS_R_PartsOf_1 g.R_PartsOf_1), (170, SS_R_baseAt g.R_baseAt), (171, SS_R_begin g.R_begin), (172, SS_strings_Contains g.strings_Contains)] [(2, [0]), (8, [1]), (9, [2])] [] [] [] [] [] [] [] []
theorem sm_R_PartsOf (g : C_R_PartsOf) : Same (SS_R_PartsOf (@R_PartsOf_ g)) (abody (E_R_PartsOf g) Tryz.f113 code_113 3 [] [.asis, .asis] g.N) := by intro args; unfold SS_R_PartsOf; split; exact .inr fun R k => (by kernel_rfl); exact .inl fun R k => rfl
theorem ok_R_PartsOf [Fuel] : Ok 113 (SS_R_PartsOf (@R_PartsOf _)) := okF_of std (.cons ok_strings_Cut (.cons ok_R_PartsOf_1 (.cons ok_R_baseAt (.cons ok_R_begin (.cons ok_strings_Contains .nil))))) ⟨rfl, rfl, by kernel_rfl, rfl, rfl, rfl⟩ (sm_R_PartsOf I_R_PartsOf) (cuts0 (fun _ => rfl) (by kernel_rfl)) Tryz.func113 (by kernel_rfl) (by kernel_rfl)
abbrev T_Q_Call : Type 1 := List UInt8 → {R : Type} → (Bool → Option R) → Option R
structure C_Q_Call where
  N : Nat
  R_PartsOf : T_R_PartsOf
def Q_Call_ (g : C_Q_Call) (a1 : List UInt8) {R : Type} (k0 : Bool → Option R) : Option R :=
  (g.R_PartsOf a1 (fun r2 r3 => k0 r3))
noncomputable def I_Q_Call [Fuel] : C_Q_Call := ⟨NN, @R_PartsOf _⟩
noncomputable def Q_Call [Fuel] : T_Q_Call := @Q_Call_ I_Q_Call
def SS_Q_Call (g : T_Q_Call) : Spec A := fun args => match args with | [.d (.str a1)] => fun k => g a1 (fun z0 => k (.d (.bool z0)) [.undef]) | _ => fun _ => none
noncomputable def code_65 : Code := (Tryz.f65.body).getD .skip
noncomputable def E_Q_Call (g : C_Q_Call) : Env A := mkE [(113, SS_R_PartsOf g.R_PartsOf)] [(3, [0])] [] [] [] [] [] [] [] []
theorem sm_Q_Call (g : C_Q_Call) : Same (SS_Q_Call (@Q_Call_ g)) (abody (E_Q_Call g) Tryz.f65 code_65 1 [] [.asis] g.N) := by intro args; unfold SS_Q_Call; split; exact .inr fun R k => (by kernel_rfl); exact .inl fun R k => rfl
theorem ok_Q_Call [Fuel] : Ok 65 (SS_Q_Call (@Q_Call _)) := okF_of std (.cons ok_R_PartsOf .nil) ⟨rfl, rfl, by kernel_rfl, rfl, rfl, rfl⟩ (sm_Q_Call I_Q_Call) (cuts0 (fun _ => rfl) (by kernel_rfl)) Tryz.func65 (by kernel_rfl) (by kernel_rfl)
abbrev T_Q_in : Type 1 := Int → Int → Int → {R : Type} → (Bool → Option R) → Option R
def Q_in_ (g : Nat) (a1 a2 a3 : Int) {R : Type} (k0 : Bool → Option R) : Option R :=
  (bif (decide (a2 ≤ a1)) then k0 (decide (a1 ≤ a3)) else k0 false)
noncomputable def Q_in [Fuel] : T_Q_in := @Q_in_ NN
def SS_Q_in (g : T_Q_in) : Spec A := fun args => match args with | [.d (.int .i64 a1), .d (.int .i64 a2), .d (.int .i64 a3)] => fun k => g a1 a2 a3 (fun z0 => k (.d (.bool z0)) [.undef, .undef, .undef]) | _ => fun _ => none
noncomputable def code_67 : Code := (Tryz.f67.body).getD .skip
noncomputable def E_Q_in (g : Nat) : Env A := mkE [] [] [] [] [] [] [] [] [] []
theorem sm_Q_in (g : Nat) : Same (SS_Q_in (@Q_in_ g)) (abody (E_Q_in g) Tryz.f67 code_67 0 [] [.asis] g) := by intro args; unfold SS_Q_in; split; exact .inr fun R k => (by kernel_rfl); exact .inl fun R k => rfl
theorem ok_Q_in [Fuel] : Ok 67 (SS_Q_in (@Q_in _)) := okF_of std .nil ⟨rfl, rfl, by kernel_rfl, rfl, rfl, rfl⟩ (sm_Q_in NN) (cuts0 (fun _ => rfl) (by kernel_rfl)) Tryz.func67 (by kernel_rfl) (by kernel_rfl)
abbrev T_Q_timeFault : Type 1 := G_Window → {R : Type} → (Int → Option R) → Option R
def Q_timeFault_ (g : Nat) (a1 : G_Window) {R : Type} (k0 : Int → Option R) : Option R :=
  (bif (decide (a1.f_From < 0)) then k0 1 else (bif (decide (a1.f_From ≥ a1.f_To)) then k0 1 else (bif (decide (a1.f_To > 345686400000)) then k0 1 else k0 0)))
noncomputable def Q_timeFault [Fuel] : T_Q_timeFault := @Q_timeFault_ NN
def SS_Q_timeFault (g : T_Q_timeFault) : Spec A := fun args => match args with | [.agg [.d (.int .i64 a1), .d (.int .i64 a2)]] => fun k => g ⟨a1, a2⟩ (fun z0 => k (.d (.int .i64 z0)) [.undef]) | _ => fun _ => none
noncomputable def code_91 : Code := (Tryz.f91.body).getD .skip
noncomputable def E_Q_timeFault (g : Nat) : Env A := mkE [] [(1, [0])] [] [] [] [] [] [] [] []
theorem sm_Q_timeFault (g : Nat) : Same (SS_Q_timeFault (@Q_timeFault_ g)) (abody (E_Q_timeFault g) Tryz.f91 code_91 1 [] [.asis] g) := by intro args; unfold SS_Q_timeFault; split; exact .inr fun R k => (by kernel_rfl); exact .inl fun R k => rfl
theorem ok_Q_timeFault [Fuel] : Ok 91 (SS_Q_timeFault (@Q_timeFault _)) := okF_of std .nil ⟨rfl, rfl, by kernel_rfl, rfl, rfl, rfl⟩ (sm_Q_timeFault NN) (cuts0 (fun _ => rfl) (by kernel_rfl)) Tryz.func91 (by kernel_rfl) (by kernel_rfl)
abbrev T_Q_BusyFault : Type 1 := List G_Busy → {R : Type} → (Int → Option R) → Option R
structure C_Q_BusyFault where
  N : Nat
  Q_Call : T_Q_Call
  Q_in : T_Q_in
  slices_Compare__int : T_slices_Compare__int
  Q_timeFault : T_Q_timeFault
def Q_BusyFault_L4 (g : C_Q_BusyFault) : Nat → List G_Busy → List G_Busy → Int → Int → {R : Type} → (Int → Option R) → Option R → Option R
  | 0, _, _, _, _, _, _, _ => none
  | n + 1, v2, v3, v4, v5, _, e0, e1 => (bif (decide (v5 < v4)) then (get_ v3 v5 fun x13 => (g.Q_Call x13.f_Who (fun r14 => (bif (!r14) then e0 3 else (g.Q_in x13.f_Hertz 0 30000000000 (fun r15 => (bif (!r15) then e0 1 else (g.Q_in x13.f_Width 1 100000 (fun r16 => (bif (!r16) then e0 1 else (g.Q_timeFault x13.f_Time (fun r17 => (bif (r17 != 0) then e0 1 else (bif (decide (v5 > 0)) then (get_ v2 (w64 (v5 - 1)) fun x18 => (g.slices_Compare__int [x18.f_Time.f_From, x18.f_Hertz] [x13.f_Time.f_From, x13.f_Hertz] (fun r19 => (bif (decide (r19 > 0)) then e0 7 else (bif (r19 == 0) then (bif (!(Op.bytesLess x18.f_Who x13.f_Who)) then e0 7 else Q_BusyFault_L4 g n v2 v3 v4 (w64 (v5 + 1)) e0 e1) else Q_BusyFault_L4 g n v2 v3 v4 (w64 (v5 + 1)) e0 e1))))) else Q_BusyFault_L4 g n v2 v3 v4 (w64 (v5 + 1)) e0 e1)))))))))))))) else e1)
def Q_BusyFault_ (g : C_Q_BusyFault) (a1 : List G_Busy) {R : Type} (k0 : Int → Option R) : Option R :=
  (bif (decide ((a1.length : Int) > 500)) then k0 2 else (Q_BusyFault_L4 g g.N a1 a1 (a1.length : Int) 0 (fun e20 => k0 e20) (k0 0)))
noncomputable def I_Q_BusyFault [Fuel] : C_Q_BusyFault := ⟨NN, @Q_Call _, @Q_in _, @slices_Compare__int _, @Q_timeFault _⟩
noncomputable def Q_BusyFault [Fuel] : T_Q_BusyFault := @Q_BusyFault_ I_Q_BusyFault
def SS_Q_BusyFault (g : T_Q_BusyFault) : Spec A := fun args => match args with | [.d (.sl 120 a1)] => fun k => g a1 (fun z0 => k (.d (.int .i64 z0)) [.undef]) | _ => fun _ => none
def sh_Q_BusyFault_L4 : SSt := mkSh 73 4 [(0, .sl 120), (10, .sl 120), (11, .int .i64), (12, .int .i64)] []
def LP_Q_BusyFault_L4 (g : C_Q_BusyFault) (n : Nat) : LPT A := fun ps => match ps with | [.d (.sl 120 p1), .d (.sl 120 p2), .d (.int .i64 p3), .d (.int .i64 p4)] => fun K => Q_BusyFault_L4 g n p1 p2 p3 p4 (fun z0 => K .ret (mkSt 73 4 [(2, .d (.int .i64 z0))] [])) (K (.exit 0) (mkSt 73 4 [] [])) | _ => fun _ => none
noncomputable def code_33 : Code := (Tryz.f33.body).getD .skip
noncomputable def E_Q_BusyFault (g : C_Q_BusyFault) : Env A := mkE [(65, SS_Q_Call g.Q_Call), (67, SS_Q_in g.Q_in), (82, SS_slices_Compare__int g.slices_Compare__int), (91, SS_Q_timeFault g.Q_timeFault)] [(4, [0]), (5, [1]), (51, [2]), (57, [3])] [(4, ⟨[0, 10, 11, 12], [], [], []⟩)] [(4, ⟨[2], [], [], []⟩)] [(4, pieceOf sh_Q_BusyFault_L4 (LP_Q_BusyFault_L4 g g.N))] [] [] [] [] []
theorem ct_Q_BusyFault [Fuel] : NatTab (E_Q_BusyFault I_Q_BusyFault).C := ct_of (P := Tryz.prog) (T := T) (.cons ok_Q_Call (.cons ok_Q_in (.cons ok_slices_Compare__int (.cons ok_Q_timeFault .nil)))) (by kernel_rfl)
noncomputable def cb_Q_BusyFault_L4 : Code := sub [1, 1, 0, 1, 0, 0] code_33
theorem s_Q_BusyFault_L4 (g : C_Q_BusyFault) (n : Nat) : StepOk (E_Q_BusyFault g) g.N cb_Q_BusyFault_L4 sh_Q_BusyFault_L4 (LP_Q_BusyFault_L4 g) n := by intro ps; unfold LP_Q_BusyFault_L4; split; exact .inr fun R K => (by kernel_rfl); exact .inl fun R K => rfl
theorem lf_Q_BusyFault_L4 [Fuel] : LoopFine (E_Q_BusyFault I_Q_BusyFault) NN cb_Q_BusyFault_L4 := fine_loop sh_Q_BusyFault_L4 (LP_Q_BusyFault_L4 I_Q_BusyFault) (by kernel_rfl) ct_Q_BusyFault (cuts0 (fun _ => rfl) (by kernel_rfl)) (fun ps R K => by unfold LP_Q_BusyFault_L4; split <;> (try unfold Q_BusyFault_L4) <;> rfl) (s_Q_BusyFault_L4 I_Q_BusyFault)
theorem sm_Q_BusyFault (g : C_Q_BusyFault) : Same (SS_Q_BusyFault (@Q_BusyFault_ g)) (abody (E_Q_BusyFault g) Tryz.f33 code_33 4 [] [.asis] g.N) := by intro args; unfold SS_Q_BusyFault; split; exact .inr fun R k => (by kernel_rfl); exact .inl fun R k => rfl
theorem ok_Q_BusyFault [Fuel] : Ok 33 (SS_Q_BusyFault (@Q_BusyFault _)) := okF_of std (.cons ok_Q_Call (.cons ok_Q_in (.cons ok_slices_Compare__int (.cons ok_Q_timeFault .nil)))) ⟨rfl, rfl, by kernel_rfl, rfl, rfl, rfl⟩ (sm_Q_BusyFault I_Q_BusyFault) (cutsL (fun _ => rfl) (.cons lf_Q_BusyFault_L4 .nil) (by kernel_rfl)) Tryz.func33 (by kernel_rfl) (by kernel_rfl)
abbrev T_Q_only : Type 1 := List UInt8 → List UInt8 → {R : Type} → (Bool → Option R) → Option R
structure C_Q_only where
  N : Nat
  strings_IndexByte : T_strings_IndexByte
def Q_only_L2 (g : C_Q_only) : Nat → List UInt8 → List UInt8 → Int → Int → {R : Type} → (Bool → Option R) → Option R → Option R
  | 0, _, _, _, _, _, _, _ => none
  | n + 1, v3, v4, v5, v6, _, e0, e1 => (bif (decide (v6 < v5)) then (get_ v3 v6 fun x9 => (g.strings_IndexByte v4 (x9.toNat : Int) (fun r10 => (bif (decide (r10 < 0)) then e0 false else Q_only_L2 g n v3 v4 v5 (w64 (v6 + 1)) e0 e1)))) else e1)
def Q_only_ (g : C_Q_only) (a1 a2 : List UInt8) {R : Type} (k0 : Bool → Option R) : Option R :=
  (Q_only_L2 g g.N a1 a2 (a1.length : Int) 0 (fun e11 => k0 e11) (k0 true))
noncomputable def I_Q_only [Fuel] : C_Q_only := ⟨NN, @strings_IndexByte _⟩
noncomputable def Q_only [Fuel] : T_Q_only := @Q_only_ I_Q_only
def SS_Q_only (g : T_Q_only) : Spec A := fun args => match args with | [.d (.str a1), .d (.str a2)] => fun k => g a1 a2 (fun z0 => k (.d (.bool z0)) [.undef, .undef]) | _ => fun _ => none
def sh_Q_only_L2 : SSt := mkSh 18 0 [(0, .str), (1, .str), (7, .int .i64), (8, .int .i64)] []
def LP_Q_only_L2 (g : C_Q_only) (n : Nat) : LPT A := fun ps => match ps with | [.d (.str p1), .d (.str p2), .d (.int .i64 p3), .d (.int .i64 p4)] => fun K => Q_only_L2 g n p1 p2 p3 p4 (fun z0 => K .ret (mkSt 18 0 [(4, .d (.bool z0))] [])) (K (.exit 0) (mkSt 18 0 [] [])) | _ => fun _ => none
noncomputable def code_114 : Code := (Tryz.f114.body).getD .skip
noncomputable def E_Q_only (g : C_Q_only) : Env A := mkE [(102, SS_strings_IndexByte g.strings_IndexByte)] [] [(2, ⟨[0, 1, 7, 8], [], [], []⟩)] [(2, ⟨[4], [], [], []⟩)] [(2, pieceOf sh_Q_only_L2 (LP_Q_only_L2 g g.N))] [] [] [] [] []
theorem ct_Q_only [Fuel] : NatTab (E_Q_only I_Q_only).C := ct_of (P := Tryz.prog) (T := T) (.cons ok_strings_IndexByte .nil) (by kernel_rfl)
noncomputable def cb_Q_only_L2 : Code := sub [1, 0, 1, 0, 0] code_114
theorem s_Q_only_L2 (g : C_Q_only) (n : Nat) : StepOk (E_Q_only g) g.N cb_Q_only_L2 sh_Q_only_L2 (LP_Q_only_L2 g) n := by intro ps; unfold LP_Q_only_L2; split; exact .inr fun R K => (by kernel_rfl); exact .inl fun R K => rfl
theorem lf_Q_only_L2 [Fuel] : LoopFine (E_Q_only I_Q_only) NN cb_Q_only_L2 := fine_loop sh_Q_only_L2 (LP_Q_only_L2 I_Q_only) (by kernel_rfl) ct_Q_only (cuts0 (fun _ => rfl) (by kernel_rfl)) (fun ps R K => by unfold LP_Q_only_L2; split <;> (try unfold Q_only_L2) <;> rfl) (s_Q_only_L2 I_Q_only)
theorem sm_Q_only (g : C_Q_only) : Same (SS_Q_only (@Q_only_ g)) (abody (E_Q_only g) Tryz.f114 code_114 0 [] [.asis] g.N) := by intro args; unfold SS_Q_only; split; exact .inr fun R k => (by kernel_rfl); exact .inl fun R k => rfl
theorem ok_Q_only [Fuel] : Ok 114 (SS_Q_only (@Q_only _)) := okF_of std (.cons ok_strings_IndexByte .nil) ⟨rfl, rfl, by kernel_rfl, rfl, rfl, rfl⟩ (sm_Q_only I_Q_only) (cutsL (fun _ => rfl) (.cons lf_Q_only_L2 .nil) (by kernel_rfl)) Tryz.func114 (by kernel_rfl) (by kernel_rfl)
abbrev T_Q_Key : Type 1 := List UInt8 → {R : Type} → (Bool → Option R) → Option R
structure C_Q_Key where
  N : Nat
  Q_in : T_Q_in
  Q_only : T_Q_only
def Q_Key_ (g : C_Q_Key) (a1 : List UInt8) {R : Type} (k0 : Bool → Option R) : Option R :=
  (g.Q_in (a1.length : Int) 1 40 (fun r2 => (bif r2 then (bif (decide (0 ≤ 1) && decide (1 ≤ (a1.length : Int))) then (g.Q_only (a1.take (1 : Int).toNat) [97, 98, 99, 100, 101, 102, 103, 104, 105, 106, 107, 108, 109, 110, 111, 112, 113, 114, 115, 116, 117, 118, 119, 120, 121, 122] (fun r3 => (bif r3 then (g.Q_only a1 [97, 98, 99, 100, 101, 102, 103, 104, 105, 106, 107, 108, 109, 110, 111, 112, 113, 114, 115, 116, 117, 118, 119, 120, 121, 122, 48, 49, 50, 51, 52, 53, 54, 55, 56, 57, 45, 95] (fun r4 => k0 r4)) else k0 false))) else none) else k0 false)))
noncomputable def I_Q_Key [Fuel] : C_Q_Key := ⟨NN, @Q_in _, @Q_only _⟩
noncomputable def Q_Key [Fuel] : T_Q_Key := @Q_Key_ I_Q_Key
def SS_Q_Key (g : T_Q_Key) : Spec A := fun args => match args with | [.d (.str a1)] => fun k => g a1 (fun z0 => k (.d (.bool z0)) [.undef]) | _ => fun _ => none
noncomputable def code_66 : Code := (Tryz.f66.body).getD .skip
noncomputable def E_Q_Key (g : C_Q_Key) : Env A := mkE [(67, SS_Q_in g.Q_in), (114, SS_Q_only g.Q_only)] [] [] [] [] [] [] [] [] []
theorem sm_Q_Key (g : C_Q_Key) : Same (SS_Q_Key (@Q_Key_ g)) (abody (E_Q_Key g) Tryz.f66 code_66 0 [] [.asis] g.N) := by intro args; unfold SS_Q_Key; split; exact .inr fun R k => (by kernel_rfl); exact .inl fun R k => rfl
theorem ok_Q_Key [Fuel] : Ok 66 (SS_Q_Key (@Q_Key _)) := okF_of std (.cons ok_Q_in (.cons ok_Q_only .nil)) ⟨rfl, rfl, by kernel_rfl, rfl, rfl, rfl⟩ (sm_Q_Key I_Q_Key) (cuts0 (fun _ => rfl) (by kernel_rfl)) Tryz.func66 (by kernel_rfl) (by kernel_rfl)
end Go.Am
