/- The functions of the program as Lean functions, each shown to be what the code computes, part 5. No condition: lemmas for the claim. -/
import Derived.Test.YtnkoiigdcbjenaaGreatDoorF0
import Derived.Test.YtnkoiigdcbjenaaGreatDoorFSh
import Derived.Test.YtnkoiigdcbjenaaGreatDoorF1
import Derived.Test.YtnkoiigdcbjenaaGreatDoorF2
import Derived.Test.YtnkoiigdcbjenaaGreatDoorF3
import Derived.Test.YtnkoiigdcbjenaaGreatDoorF4
set_option linter.unusedVariables false
set_option maxRecDepth 100000
namespace Go.Am
open Go Go.Proofs
abbrev T_slices_Equal__Best : Type 1 := List G_Best → List G_Best → {R : Type} → (Bool → Option R) → Option R
def slices_Equal__Best_L4 (g : Nat) : Nat → List G_Best → List G_Best → Int → Int → {R : Type} → (Bool → Option R) → Option R → Option R
  | 0, _, _, _, _, _, _, _ => none
  | n + 1, v3, v4, v5, v6, _, e0, e1 => (bif (decide (v6 < v5)) then (get_ v3 v6 fun x9 => (get_ v4 v6 fun x10 => (bif (!(eq_G_Best x9 x10)) then e0 false else slices_Equal__Best_L4 g n v3 v4 v5 (w64 (v6 + 1)) e0 e1))) else e1)
def slices_Equal__Best_ (g : Nat) (a1 a2 : List G_Best) {R : Type} (k0 : Bool → Option R) : Option R :=
  (bif ((a1.length : Int) != (a2.length : Int)) then k0 false else (slices_Equal__Best_L4 g g a1 a2 (a1.length : Int) 0 (fun e11 => k0 e11) (k0 true)))
noncomputable def slices_Equal__Best [Fuel] : T_slices_Equal__Best := @slices_Equal__Best_ NN
def p_slices_Equal__Best (args : List (IV A)) : Bool := match args with | [.d (.sl 78 _), .d (.sl 78 _)] => true | _ => false
def SS_slices_Equal__Best (g : T_slices_Equal__Best) : Spec A := fun args => match args with | [.d (.sl 78 a1), .d (.sl 78 a2)] => fun k => g a1 a2 (fun z0 => k (.d (.bool z0)) [.undef, .undef]) | _ => fun _ => none
def sh_slices_Equal__Best_L4 : SSt := mkSh 26 0 [(0, .sl 78), (1, .sl 78), (12, .int .i64), (13, .int .i64)] []
def LP_slices_Equal__Best_L4 (g : Nat) (n : Nat) : LPT A := fun ps => match ps with | [.d (.sl 78 p1), .d (.sl 78 p2), .d (.int .i64 p3), .d (.int .i64 p4)] => fun K => slices_Equal__Best_L4 g n p1 p2 p3 p4 (fun z0 => K .ret (mkSt 26 0 [(4, .d (.bool z0))] [])) (K (.exit 0) (mkSt 26 0 [] [])) | _ => fun _ => none
noncomputable def code_41 : Code := (Tryz.f41.body).getD .skip
noncomputable def E_slices_Equal__Best (g : Nat) : Env A := mkE [] [] [(4, ⟨[0, 1, 12, 13], [], [], []⟩)] [(4, ⟨[4], [], [], []⟩)] [(4, pieceOf sh_slices_Equal__Best_L4 (LP_slices_Equal__Best_L4 g g))] [] [] [] [] []
theorem ct_slices_Equal__Best [Fuel] : NatTab (E_slices_Equal__Best NN).C := ct_of (P := Tryz.prog) (T := T) .nil (by kernel_rfl)
noncomputable def cb_slices_Equal__Best_L4 : Code := sub [1, 1, 0, 1, 0, 0] code_41
theorem s_slices_Equal__Best_L4 (g : Nat) (n : Nat) : StepOk (E_slices_Equal__Best g) g cb_slices_Equal__Best_L4 sh_slices_Equal__Best_L4 (LP_slices_Equal__Best_L4 g) n := by intro ps; unfold LP_slices_Equal__Best_L4; split; exact .inr fun R K => (by kernel_rfl); exact .inl fun R K => rfl
theorem lf_slices_Equal__Best_L4 [Fuel] : LoopFine (E_slices_Equal__Best NN) NN cb_slices_Equal__Best_L4 := fine_loop sh_slices_Equal__Best_L4 (LP_slices_Equal__Best_L4 NN) (by kernel_rfl) ct_slices_Equal__Best (cuts0 (fun _ => rfl) (by kernel_rfl)) (fun ps R K => by unfold LP_slices_Equal__Best_L4; split <;> (try unfold slices_Equal__Best_L4) <;> rfl) (s_slices_Equal__Best_L4 NN)
theorem sm_slices_Equal__Best (g : Nat) : Same (SS_slices_Equal__Best (@slices_Equal__Best_ g)) (abody (E_slices_Equal__Best g) Tryz.f41 code_41 0 [] [.asis] g) := by intro args; unfold SS_slices_Equal__Best; split; exact .inr fun R k => (by kernel_rfl); exact .inl fun R k => rfl
theorem ok_slices_Equal__Best [Fuel] : Ok 41 (SS_slices_Equal__Best (@slices_Equal__Best _)) := okF_of std .nil ⟨rfl, rfl, by kernel_rfl, rfl, rfl, rfl⟩ (sm_slices_Equal__Best NN) (cutsL (fun _ => rfl) (.cons lf_slices_Equal__Best_L4 .nil) (by kernel_rfl)) Tryz.func41 (by kernel_rfl) (by kernel_rfl)
abbrev T_club_isSquare : Type 1 := List UInt8 → {R : Type} → (Bool → Option R) → Option R
def club_isSquare_L4 (g : Nat) : Nat → List UInt8 → Int → Int → {R : Type} → (Bool → Option R) → Option R → Option R
  | 0, _, _, _, _, _, _ => none
  | n + 1, v2, v3, v4, _, e0, e1 => (bif (decide (v4 < v3)) then (bif ((w64 (Int.tdiv v4 2)) == 1) then (get_ v2 v4 fun x11 => (bif (decide ((x11.toNat : Int) < 48)) then e0 false else (get_ v2 v4 fun x12 => (bif (decide ((x12.toNat : Int) > 57)) then e0 false else club_isSquare_L4 g n v2 v3 (w64 (v4 + 1)) e0 e1)))) else (bif ((w64 (Int.tdiv v4 2)) == 2) then (get_ v2 v4 fun x13 => (bif (decide ((x13.toNat : Int) < 97)) then e0 false else (get_ v2 v4 fun x14 => (bif (decide ((x14.toNat : Int) > 120)) then e0 false else club_isSquare_L4 g n v2 v3 (w64 (v4 + 1)) e0 e1)))) else (get_ v2 v4 fun x15 => (bif (decide ((x15.toNat : Int) < 97)) then e0 false else (get_ v2 v4 fun x16 => (bif (decide ((x16.toNat : Int) > 114)) then e0 false else club_isSquare_L4 g n v2 v3 (w64 (v4 + 1)) e0 e1)))))) else e1)
def club_isSquare_ (g : Nat) (a1 : List UInt8) {R : Type} (k0 : Bool → Option R) : Option R :=
  (bif ((a1.length : Int) != 2) then (bif ((a1.length : Int) != 4) then (bif ((a1.length : Int) != 6) then k0 false else (club_isSquare_L4 g g a1 (a1.length : Int) 0 (fun e17 => k0 e17) (k0 true))) else (club_isSquare_L4 g g a1 (a1.length : Int) 0 (fun e18 => k0 e18) (k0 true))) else (club_isSquare_L4 g g a1 (a1.length : Int) 0 (fun e19 => k0 e19) (k0 true)))
noncomputable def club_isSquare [Fuel] : T_club_isSquare := @club_isSquare_ NN
def SS_club_isSquare (g : T_club_isSquare) : Spec A := fun args => match args with | [.d (.str a1)] => fun k => g a1 (fun z0 => k (.d (.bool z0)) [.undef]) | _ => fun _ => none
def sh_club_isSquare_L4 : SSt := mkSh 43 0 [(0, .str), (20, .int .i64), (21, .int .i64)] []
def LP_club_isSquare_L4 (g : Nat) (n : Nat) : LPT A := fun ps => match ps with | [.d (.str p1), .d (.int .i64 p2), .d (.int .i64 p3)] => fun K => club_isSquare_L4 g n p1 p2 p3 (fun z0 => K .ret (mkSt 43 0 [(2, .d (.bool z0))] [])) (K (.exit 0) (mkSt 43 0 [] [])) | _ => fun _ => none
noncomputable def code_121 : Code := (Tryz.f121.body).getD .skip
noncomputable def E_club_isSquare (g : Nat) : Env A := mkE [] [] [(4, ⟨[0, 20, 21], [], [], []⟩)] [(4, ⟨[2], [], [], []⟩)] [(4, pieceOf sh_club_isSquare_L4 (LP_club_isSquare_L4 g g))] [] [] [] [] []
theorem ct_club_isSquare [Fuel] : NatTab (E_club_isSquare NN).C := ct_of (P := Tryz.prog) (T := T) .nil (by kernel_rfl)
noncomputable def cb_club_isSquare_L4 : Code := sub [1, 1, 0, 1, 0, 0] code_121
theorem s_club_isSquare_L4 (g : Nat) (n : Nat) : StepOk (E_club_isSquare g) g cb_club_isSquare_L4 sh_club_isSquare_L4 (LP_club_isSquare_L4 g) n := by intro ps; unfold LP_club_isSquare_L4; split; exact .inr fun R K => (by kernel_rfl); exact .inl fun R K => rfl
theorem lf_club_isSquare_L4 [Fuel] : LoopFine (E_club_isSquare NN) NN cb_club_isSquare_L4 := fine_loop sh_club_isSquare_L4 (LP_club_isSquare_L4 NN) (by kernel_rfl) ct_club_isSquare (cuts0 (fun _ => rfl) (by kernel_rfl)) (fun ps R K => by unfold LP_club_isSquare_L4; split <;> (try unfold club_isSquare_L4) <;> rfl) (s_club_isSquare_L4 NN)
theorem sm_club_isSquare (g : Nat) : Same (SS_club_isSquare (@club_isSquare_ g)) (abody (E_club_isSquare g) Tryz.f121 code_121 0 [] [.asis] g) := by intro args; unfold SS_club_isSquare; split; exact .inr fun R k => (by kernel_rfl); exact .inl fun R k => rfl
theorem ok_club_isSquare [Fuel] : Ok 121 (SS_club_isSquare (@club_isSquare _)) := okF_of std .nil ⟨rfl, rfl, by kernel_rfl, rfl, rfl, rfl⟩ (sm_club_isSquare NN) (cutsL (fun _ => rfl) (.cons lf_club_isSquare_L4 .nil) (by kernel_rfl)) Tryz.func121 (by kernel_rfl) (by kernel_rfl)
abbrev T_club_isLocator : Type 1 := List UInt8 → {R : Type} → (Bool → Option R) → Option R
structure C_club_isLocator where
  N : Nat
  club_isSquare : T_club_isSquare
def club_isLocator_ (g : C_club_isLocator) (a1 : List UInt8) {R : Type} (k0 : Bool → Option R) : Option R :=
  (bif ((a1.length : Int) == 6) then (g.club_isSquare a1 (fun r2 => k0 r2)) else k0 false)
noncomputable def I_club_isLocator [Fuel] : C_club_isLocator := ⟨NN, @club_isSquare _⟩
noncomputable def club_isLocator [Fuel] : T_club_isLocator := @club_isLocator_ I_club_isLocator
def SS_club_isLocator (g : T_club_isLocator) : Spec A := fun args => match args with | [.d (.str a1)] => fun k => g a1 (fun z0 => k (.d (.bool z0)) [.undef]) | _ => fun _ => none
noncomputable def code_123 : Code := (Tryz.f123.body).getD .skip
noncomputable def E_club_isLocator (g : C_club_isLocator) : Env A := mkE [(121, SS_club_isSquare g.club_isSquare)] [] [] [] [] [] [] [] [] []
theorem sm_club_isLocator (g : C_club_isLocator) : Same (SS_club_isLocator (@club_isLocator_ g)) (abody (E_club_isLocator g) Tryz.f123 code_123 0 [] [.asis] g.N) := by intro args; unfold SS_club_isLocator; split; exact .inr fun R k => (by kernel_rfl); exact .inl fun R k => rfl
theorem ok_club_isLocator [Fuel] : Ok 123 (SS_club_isLocator (@club_isLocator _)) := okF_of std (.cons ok_club_isSquare .nil) ⟨rfl, rfl, by kernel_rfl, rfl, rfl, rfl⟩ (sm_club_isLocator I_club_isLocator) (cuts0 (fun _ => rfl) (by kernel_rfl)) Tryz.func123 (by kernel_rfl) (by kernel_rfl)
abbrev T_club_CheckEntrants : Type 1 := List G_Entrant → {R : Type} → (Int → Option R) → Option R
structure C_club_CheckEntrants where
  N : Nat
  call_Is : T_call_Is
  kit_IsKey : T_kit_IsKey
  strings_Compare : T_strings_Compare
  kit_Outside : T_kit_Outside
  cmp_Or__int : T_cmp_Or__int
  club_isLocator : T_club_isLocator
def club_CheckEntrants_L4 (g : C_club_CheckEntrants) : Nat → List G_Entrant → List G_Entrant → Int → Int → {R : Type} → (Int → Option R) → Option R → Option R
  | 0, _, _, _, _, _, _, _ => none
  | n + 1, v2, v3, v4, v5, _, e0, e1 => (bif (decide (v5 < v4)) then (get_ v3 v5 fun x21 => (g.call_Is x21.f_Call (fun r22 => (bif (!r22) then e0 3 else (g.kit_IsKey x21.f_Category (fun r23 => (bif (!r23) then e0 5 else (g.kit_Outside x21.f_Points 0 1000000000000 (fun r24 => (bif r24 then e0 1 else (bif (!(x21.f_Locator == [])) then (g.club_isLocator x21.f_Locator (fun r25 => (bif (!r25) then e0 3 else (bif (decide (v5 > 0)) then (get_ v2 (w64 (v5 - 1)) fun x26 => (get_ v2 (w64 (v5 - 1)) fun x27 => (g.strings_Compare x26.f_Category x21.f_Category (fun r28 => (g.strings_Compare x27.f_Call x21.f_Call (fun r29 => (g.cmp_Or__int [r28, r29] (fun r30 => (bif (decide (r30 ≥ 0)) then e0 7 else club_CheckEntrants_L4 g n v2 v3 v4 (w64 (v5 + 1)) e0 e1))))))))) else club_CheckEntrants_L4 g n v2 v3 v4 (w64 (v5 + 1)) e0 e1)))) else (bif (decide (v5 > 0)) then (get_ v2 (w64 (v5 - 1)) fun x31 => (get_ v2 (w64 (v5 - 1)) fun x32 => (g.strings_Compare x31.f_Category x21.f_Category (fun r33 => (g.strings_Compare x32.f_Call x21.f_Call (fun r34 => (g.cmp_Or__int [r33, r34] (fun r35 => (bif (decide (r35 ≥ 0)) then e0 7 else club_CheckEntrants_L4 g n v2 v3 v4 (w64 (v5 + 1)) e0 e1))))))))) else club_CheckEntrants_L4 g n v2 v3 v4 (w64 (v5 + 1)) e0 e1)))))))))))) else e1)
def club_CheckEntrants_ (g : C_club_CheckEntrants) (a1 : List G_Entrant) {R : Type} (k0 : Int → Option R) : Option R :=
  (bif (decide ((a1.length : Int) > 500)) then k0 2 else (club_CheckEntrants_L4 g g.N a1 a1 (a1.length : Int) 0 (fun e36 => k0 e36) (k0 0)))
noncomputable def I_club_CheckEntrants [Fuel] : C_club_CheckEntrants := ⟨NN, @call_Is _, @kit_IsKey _, @strings_Compare _, @kit_Outside _, @cmp_Or__int _, @club_isLocator _⟩
noncomputable def club_CheckEntrants [Fuel] : T_club_CheckEntrants := @club_CheckEntrants_ I_club_CheckEntrants
def SS_club_CheckEntrants (g : T_club_CheckEntrants) : Spec A := fun args => match args with | [.d (.sl 100 a1)] => fun k => g a1 (fun z0 => k (.d (.int .i64 z0)) [.undef]) | _ => fun _ => none
def sh_club_CheckEntrants_L4 : SSt := mkSh 66 2 [(0, .sl 100), (8, .sl 100), (9, .int .i64), (10, .int .i64)] []
def LP_club_CheckEntrants_L4 (g : C_club_CheckEntrants) (n : Nat) : LPT A := fun ps => match ps with | [.d (.sl 100 p1), .d (.sl 100 p2), .d (.int .i64 p3), .d (.int .i64 p4)] => fun K => club_CheckEntrants_L4 g n p1 p2 p3 p4 (fun z0 => K .ret (mkSt 66 2 [(2, .d (.int .i64 z0))] [])) (K (.exit 0) (mkSt 66 2 [] [])) | _ => fun _ => none
noncomputable def code_106 : Code := (Tryz.f106.body).getD .skip
noncomputable def E_club_CheckEntrants (g : C_club_CheckEntrants) : Env A := mkE [(63, SS_call_Is g.call_Is), (79, SS_kit_IsKey g.kit_IsKey), (90, SS_strings_Compare g.strings_Compare), (91, SS_kit_Outside g.kit_Outside), (92, SS_cmp_Or__int g.cmp_Or__int), (123, SS_club_isLocator g.club_isLocator)] [(4, [0]), (61, [1])] [(4, ⟨[0, 8, 9, 10], [], [], []⟩)] [(4, ⟨[2], [], [], []⟩)] [(4, pieceOf sh_club_CheckEntrants_L4 (LP_club_CheckEntrants_L4 g g.N))] [] [] [] [] []
theorem ct_club_CheckEntrants [Fuel] : NatTab (E_club_CheckEntrants I_club_CheckEntrants).C := ct_of (P := Tryz.prog) (T := T) (.cons ok_call_Is (.cons ok_kit_IsKey (.cons ok_strings_Compare (.cons ok_kit_Outside (.cons ok_cmp_Or__int (.cons ok_club_isLocator .nil)))))) (by kernel_rfl)
noncomputable def cb_club_CheckEntrants_L4 : Code := sub [1, 1, 0, 1, 0, 0] code_106
theorem s_club_CheckEntrants_L4 (g : C_club_CheckEntrants) (n : Nat) : StepOk (E_club_CheckEntrants g) g.N cb_club_CheckEntrants_L4 sh_club_CheckEntrants_L4 (LP_club_CheckEntrants_L4 g) n := by intro ps; unfold LP_club_CheckEntrants_L4; split; exact .inr fun R K => (by kernel_rfl); exact .inl fun R K => rfl
theorem lf_club_CheckEntrants_L4 [Fuel] : LoopFine (E_club_CheckEntrants I_club_CheckEntrants) NN cb_club_CheckEntrants_L4 := fine_loop sh_club_CheckEntrants_L4 (LP_club_CheckEntrants_L4 I_club_CheckEntrants) (by kernel_rfl) ct_club_CheckEntrants (cuts0 (fun _ => rfl) (by kernel_rfl)) (fun ps R K => by unfold LP_club_CheckEntrants_L4; split <;> (try unfold club_CheckEntrants_L4) <;> rfl) (s_club_CheckEntrants_L4 I_club_CheckEntrants)
theorem sm_club_CheckEntrants (g : C_club_CheckEntrants) : Same (SS_club_CheckEntrants (@club_CheckEntrants_ g)) (abody (E_club_CheckEntrants g) Tryz.f106 code_106 2 [] [.asis] g.N) := by intro args; unfold SS_club_CheckEntrants; split; exact .inr fun R k => (by kernel_rfl); exact .inl fun R k => rfl
theorem ok_club_CheckEntrants [Fuel] : Ok 106 (SS_club_CheckEntrants (@club_CheckEntrants _)) := okF_of std (.cons ok_call_Is (.cons ok_kit_IsKey (.cons ok_strings_Compare (.cons ok_kit_Outside (.cons ok_cmp_Or__int (.cons ok_club_isLocator .nil)))))) ⟨rfl, rfl, by kernel_rfl, rfl, rfl, rfl⟩ (sm_club_CheckEntrants I_club_CheckEntrants) (cutsL (fun _ => rfl) (.cons lf_club_CheckEntrants_L4 .nil) (by kernel_rfl)) Tryz.func106 (by kernel_rfl) (by kernel_rfl)
abbrev T_club_ranked_1 : Type 1 := G_Place → G_Place → {R : Type} → (Int → Option R) → Option R
structure C_club_ranked_1 where
  N : Nat
  strings_Compare : T_strings_Compare
  cmp_Or__int : T_cmp_Or__int
  cmp_Compare__int : T_cmp_Compare__int
def club_ranked_1_ (g : C_club_ranked_1) (a1 a2 : G_Place) {R : Type} (k0 : Int → Option R) : Option R :=
  (g.cmp_Compare__int a2.f_Points a1.f_Points (fun r3 => (g.strings_Compare a1.f_Key a2.f_Key (fun r4 => (g.cmp_Or__int [r3, r4] (fun r5 => k0 r5))))))
noncomputable def I_club_ranked_1 [Fuel] : C_club_ranked_1 := ⟨NN, @strings_Compare _, @cmp_Or__int _, @cmp_Compare__int _⟩
noncomputable def club_ranked_1 [Fuel] : T_club_ranked_1 := @club_ranked_1_ I_club_ranked_1
def SS_club_ranked_1 (g : T_club_ranked_1) : Spec A := fun args => match args with | [.agg [.d (.int .i64 a1), .d (.int .i64 a2), .d (.str a3)], .agg [.d (.int .i64 a4), .d (.int .i64 a5), .d (.str a6)]] => fun k => g ⟨a1, a2, a3⟩ ⟨a4, a5, a6⟩ (fun z0 => k (.d (.int .i64 z0)) [.undef, .undef]) | _ => fun _ => none
noncomputable def code_143 : Code := (Tryz.f143.body).getD .skip
noncomputable def E_club_ranked_1 (g : C_club_ranked_1) : Env A := mkE [(90, SS_strings_Compare g.strings_Compare), (92, SS_cmp_Or__int g.cmp_Or__int), (93, SS_cmp_Compare__int g.cmp_Compare__int)] [(2, [0]), (3, [1]), (15, [2])] [] [] [] [] [] [] [] []
theorem sm_club_ranked_1 (g : C_club_ranked_1) : Same (SS_club_ranked_1 (@club_ranked_1_ g)) (abody (E_club_ranked_1 g) Tryz.f143 code_143 3 [] [.asis] g.N) := by intro args; unfold SS_club_ranked_1; split; exact .inr fun R k => (by kernel_rfl); exact .inl fun R k => rfl
theorem ok_club_ranked_1 [Fuel] : Ok 143 (SS_club_ranked_1 (@club_ranked_1 _)) := okF_of std (.cons ok_strings_Compare (.cons ok_cmp_Or__int (.cons ok_cmp_Compare__int .nil))) ⟨rfl, rfl, by kernel_rfl, rfl, rfl, rfl⟩ (sm_club_ranked_1 I_club_ranked_1) (cuts0 (fun _ => rfl) (by kernel_rfl)) Tryz.func143 (by kernel_rfl) (by kernel_rfl)
noncomputable def Ed_club_ranked_1 (g : C_club_ranked_1) : Env A := mkED [(90, SS_strings_Compare g.strings_Compare), (92, SS_cmp_Or__int g.cmp_Or__int), (93, SS_cmp_Compare__int g.cmp_Compare__int)] [(2, [0]), (3, [1]), (15, [2])] [] [] [] [] [] [] [] []
theorem smd_club_ranked_1 (g : C_club_ranked_1) : Same (SS_club_ranked_1 (@club_ranked_1_ g)) (abody (Ed_club_ranked_1 g) Tryz.f143 code_143 3 [] [.asis] g.N) := by intro args; unfold SS_club_ranked_1; split; exact .inr fun R k => (by kernel_rfl); exact .inl fun R k => rfl
theorem okd_club_ranked_1 [Fuel] : OkD 143 (SS_club_ranked_1 (@club_ranked_1 _)) := okF_of stdD (.cons okd_strings_Compare (.cons okd_cmp_Or__int (.cons okd_cmp_Compare__int .nil))) ⟨rfl, rfl, by kernel_rfl, rfl, rfl, rfl⟩ (smd_club_ranked_1 I_club_ranked_1) (cuts0 (fun _ => rfl) (by kernel_rfl)) Tryz.func143 (by kernel_rfl) (by kernel_rfl)
abbrev T_slices_SortFunc__Place_club_ranked_1 : Type 1 := List G_Place → {R : Type} → (List G_Place → Option R) → Option R
noncomputable def slices_SortFunc__Place_club_ranked_1 [Fuel] : T_slices_SortFunc__Place_club_ranked_1 := @X_sortf G_Place (@club_ranked_1 _)
def SS_slices_SortFunc__Place_club_ranked_1 (g : T_slices_SortFunc__Place_club_ranked_1) : Spec A := fun args => match args with | [.arr 103 a1, .fn 143 []] => fun k => g a1 (fun z => k (.tup []) [.arr 103 z, .fn 143 []]) | _ => fun _ => none
theorem h1_slices_SortFunc__Place_club_ranked_1 [Fuel] (xs : List (A 103)) (R : Type) (k : IV A → List (IV A) → Option R) : SS_slices_SortFunc__Place_club_ranked_1 (@slices_SortFunc__Place_club_ranked_1 _) [.arr 103 xs, .fn 143 []] k = X_sortf (α := A 103) (@club_ranked_1 _) xs (fun z => k (.tup []) [.arr 103 z, .fn 143 []]) := by kernel_rfl
theorem h2_slices_SortFunc__Place_club_ranked_1 [Fuel] (args : List (IV A)) (R : Type) (k : IV A → List (IV A) → Option R) (h : ∀ xs : List (A 103), args ≠ [.arr 103 xs, .fn 143 []]) : SS_slices_SortFunc__Place_club_ranked_1 (@slices_SortFunc__Place_club_ranked_1 _) args k = none := by unfold SS_slices_SortFunc__Place_club_ranked_1; split; exact absurd rfl (h _); rfl
theorem hc_slices_SortFunc__Place_club_ranked_1 [Fuel] (x y : A 103) (R : Type) (k : Int → Option R) : callOf T (SS_club_ranked_1 (@club_ranked_1 _)) 103 x y k = @club_ranked_1 _ x y R k := by kernel_rfl
theorem hs_slices_SortFunc__Place_club_ranked_1 (x : G_Place) : (enc_e103 x).all scal = true := rfl
theorem ok_slices_SortFunc__Place_club_ranked_1 [Fuel] : Ok 142 (SS_slices_SortFunc__Place_club_ranked_1 (@slices_SortFunc__Place_club_ranked_1 _)) := ⟨sortf_sound (tyOk Tryz.prog) (e := 103) Tryz.sortf142 Tryz.isAgg103 Tryz.sizeOf103 (fun x d hd => List.all_eq_true.1 (hs_slices_SortFunc__Place_club_ranked_1 x) d hd) hc_slices_SortFunc__Place_club_ranked_1 okd_club_ranked_1.fs okd_club_ranked_1.en h1_slices_SortFunc__Place_club_ranked_1 h2_slices_SortFunc__Place_club_ranked_1, sortf_na (e := 103) h1_slices_SortFunc__Place_club_ranked_1 h2_slices_SortFunc__Place_club_ranked_1, enters_of (fn := Tryz.f142) Tryz.func142 (by kernel_rfl) (by kernel_rfl)⟩
abbrev T_club_ranked : Type 1 := List G_Place → {R : Type} → (List G_Place → Option R) → Option R
structure C_club_ranked where
  N : Nat
  slices_SortFunc__Place_club_ranked_1 : T_slices_SortFunc__Place_club_ranked_1
def club_ranked_L3 (g : C_club_ranked) : Nat → Int → Int → List G_Place → {R : Type} → (List G_Place → Option R) → Option R
  | 0, _, _, _, _, _ => none
  | n + 1, v3, v4, v5, _, e0 => (bif (decide (v4 < v3)) then (inr v5 v4 (at_ v5 v4 fun x11 => (bif (decide (v4 > 0)) then (inr (set_ v5 v4 (⟨(w64 (v4 + 1)), x11.f_Points, x11.f_Key⟩ : G_Place)) v4 (at_ (set_ v5 v4 (⟨(w64 (v4 + 1)), x11.f_Points, x11.f_Key⟩ : G_Place)) v4 fun x12 => (inr (set_ v5 v4 (⟨(w64 (v4 + 1)), x11.f_Points, x11.f_Key⟩ : G_Place)) (w64 (v4 - 1)) (at_ (set_ v5 v4 (⟨(w64 (v4 + 1)), x11.f_Points, x11.f_Key⟩ : G_Place)) (w64 (v4 - 1)) fun x13 => (bif (x12.f_Points == x13.f_Points) then (inr (set_ v5 v4 (⟨(w64 (v4 + 1)), x11.f_Points, x11.f_Key⟩ : G_Place)) (w64 (v4 - 1)) (at_ (set_ v5 v4 (⟨(w64 (v4 + 1)), x11.f_Points, x11.f_Key⟩ : G_Place)) (w64 (v4 - 1)) fun x14 => (inr (set_ v5 v4 (⟨(w64 (v4 + 1)), x11.f_Points, x11.f_Key⟩ : G_Place)) v4 (at_ (set_ v5 v4 (⟨(w64 (v4 + 1)), x11.f_Points, x11.f_Key⟩ : G_Place)) v4 fun x15 => club_ranked_L3 g n v3 (w64 (v4 + 1)) (set_ (set_ v5 v4 (⟨(w64 (v4 + 1)), x11.f_Points, x11.f_Key⟩ : G_Place)) v4 (⟨x14.f_Rank, x15.f_Points, x15.f_Key⟩ : G_Place)) e0)))) else club_ranked_L3 g n v3 (w64 (v4 + 1)) (set_ v5 v4 (⟨(w64 (v4 + 1)), x11.f_Points, x11.f_Key⟩ : G_Place)) e0))))) else club_ranked_L3 g n v3 (w64 (v4 + 1)) (set_ v5 v4 (⟨(w64 (v4 + 1)), x11.f_Points, x11.f_Key⟩ : G_Place)) e0))) else e0 v5)
def club_ranked_ (g : C_club_ranked) (a1 : List G_Place) {R : Type} (k0 : List G_Place → Option R) : Option R :=
  (g.slices_SortFunc__Place_club_ranked_1 a1 (fun r2 => (club_ranked_L3 g g.N (r2.length : Int) 0 r2 (fun e16 => k0 e16))))
noncomputable def I_club_ranked [Fuel] : C_club_ranked := ⟨NN, @slices_SortFunc__Place_club_ranked_1 _⟩
noncomputable def club_ranked [Fuel] : T_club_ranked := @club_ranked_ I_club_ranked
def SS_club_ranked (g : T_club_ranked) : Spec A := fun args => match args with | [.arr 103 a1] => fun k => g a1 (fun z0 => k (.arr 103 z0) [.undef]) | _ => fun _ => none
def sh_club_ranked_L3 : SSt := mkSh 45 1 [(0, .own 103 0), (7, .int .i64), (8, .int .i64)] [(0, .row 103)]
def LP_club_ranked_L3 (g : C_club_ranked) (n : Nat) : LPT A := fun ps => match ps with | [.d (.int .i64 p1), .d (.int .i64 p2), .d (.sl 103 p3)] => fun K => club_ranked_L3 g n p1 p2 p3 (fun z0 => K (.exit 0) (mkSt 45 1 [(0, .own 103 0)] [(0, some (.row 103 z0))])) | _ => fun _ => none
noncomputable def code_107 : Code := (Tryz.f107.body).getD .skip
noncomputable def E_club_ranked (g : C_club_ranked) : Env A := mkE [(142, SS_slices_SortFunc__Place_club_ranked_1 g.slices_SortFunc__Place_club_ranked_1)] [] [(3, ⟨[0, 7, 8], [], [0], []⟩)] [(3, ⟨[0], [], [0], []⟩)] [(3, pieceOf sh_club_ranked_L3 (LP_club_ranked_L3 g g.N))] [] [] [] [(142, 0)] []
theorem ct_club_ranked [Fuel] : NatTab (E_club_ranked I_club_ranked).C := ct_of (P := Tryz.prog) (T := T) (.cons ok_slices_SortFunc__Place_club_ranked_1 .nil) (by kernel_rfl)
noncomputable def cb_club_ranked_L3 : Code := sub [1, 1, 0, 1, 0, 0] code_107
theorem s_club_ranked_L3 (g : C_club_ranked) (n : Nat) : StepOk (E_club_ranked g) g.N cb_club_ranked_L3 sh_club_ranked_L3 (LP_club_ranked_L3 g) n := by intro ps; unfold LP_club_ranked_L3; split; exact .inr fun R K => (by kernel_rfl); exact .inl fun R K => rfl
theorem lf_club_ranked_L3 [Fuel] : LoopFine (E_club_ranked I_club_ranked) NN cb_club_ranked_L3 := fine_loop sh_club_ranked_L3 (LP_club_ranked_L3 I_club_ranked) (by kernel_rfl) ct_club_ranked (cuts0 (fun _ => rfl) (by kernel_rfl)) (fun ps R K => by unfold LP_club_ranked_L3; split <;> (try unfold club_ranked_L3) <;> rfl) (s_club_ranked_L3 I_club_ranked)
theorem sm_club_ranked (g : C_club_ranked) : Same (SS_club_ranked (@club_ranked_ g)) (abody (E_club_ranked g) Tryz.f107 code_107 1 [0] [.arr 103] g.N) := by intro args; unfold SS_club_ranked; split; exact .inr fun R k => (by kernel_rfl); exact .inl fun R k => rfl
theorem ok_club_ranked [Fuel] : Ok 107 (SS_club_ranked (@club_ranked _)) := okF_of std (.cons ok_slices_SortFunc__Place_club_ranked_1 .nil) ⟨rfl, rfl, by kernel_rfl, rfl, rfl, rfl⟩ (sm_club_ranked I_club_ranked) (cutsL (fun _ => rfl) (.cons lf_club_ranked_L3 .nil) (by kernel_rfl)) Tryz.func107 (by kernel_rfl) (by kernel_rfl)
abbrev T_club_Table : Type 1 := List G_Entrant → List UInt8 → {R : Type} → (List G_Place → Int → Option R) → Option R
structure C_club_Table where
  N : Nat
  kit_IsKey : T_kit_IsKey
  club_CheckEntrants : T_club_CheckEntrants
  club_ranked : T_club_ranked
def club_Table_L8 (g : C_club_Table) : Nat → List UInt8 → List G_Entrant → Int → Int → List G_Place → {R : Type} → (List G_Place → Option R) → Option R
  | 0, _, _, _, _, _, _, _ => none
  | n + 1, v5, v6, v7, v8, v9, _, e0 => (bif (decide (v8 < v7)) then (get_ v6 v8 fun x11 => (bif (x11.f_Category == v5) then (bif (decide ((v9.length + [(⟨0, x11.f_Points, x11.f_Call⟩ : G_Place)].length) * 32 ≤ roomBytes')) then club_Table_L8 g n v5 v6 v7 (w64 (v8 + 1)) (v9 ++ [(⟨0, x11.f_Points, x11.f_Call⟩ : G_Place)]) e0 else none) else club_Table_L8 g n v5 v6 v7 (w64 (v8 + 1)) v9 e0)) else e0 v9)
def club_Table_ (g : C_club_Table) (a1 : List G_Entrant) (a2 : List UInt8) {R : Type} (k0 : List G_Place → Int → Option R) : Option R :=
  (g.club_CheckEntrants a1 (fun r3 => (bif (r3 != 0) then k0 [] r3 else (g.kit_IsKey a2 (fun r4 => (bif (!r4) then k0 [] 5 else (club_Table_L8 g g.N a2 a1 (a1.length : Int) 0 [] (fun e12 => (g.club_ranked e12 (fun r13 => k0 r13 0))))))))))
noncomputable def I_club_Table [Fuel] : C_club_Table := ⟨NN, @kit_IsKey _, @club_CheckEntrants _, @club_ranked _⟩
noncomputable def club_Table [Fuel] : T_club_Table := @club_Table_ I_club_Table
def SS_club_Table (g : T_club_Table) : Spec A := fun args => match args with | [.d (.sl 100 a1), .d (.str a2)] => fun k => g a1 a2 (fun z0 z1 => k (.tup [.arr 103 z0, .d (.int .i64 z1)]) [.undef, .undef]) | _ => fun _ => none
def sh_club_Table_L8 : SSt := mkSh 39 5 [(1, .str), (7, .own 103 0), (18, .sl 100), (19, .int .i64), (20, .int .i64)] [(0, .row 103)]
def LP_club_Table_L8 (g : C_club_Table) (n : Nat) : LPT A := fun ps => match ps with | [.d (.str p1), .d (.sl 100 p2), .d (.int .i64 p3), .d (.int .i64 p4), .d (.sl 103 p5)] => fun K => club_Table_L8 g n p1 p2 p3 p4 p5 (fun z0 => K (.exit 0) (mkSt 39 5 [(7, .own 103 0)] [(0, some (.row 103 z0))])) | _ => fun _ => none
noncomputable def code_60 : Code := (Tryz.f60.body).getD .skip
noncomputable def E_club_Table (g : C_club_Table) : Env A := mkE [(79, SS_kit_IsKey g.kit_IsKey), (106, SS_club_CheckEntrants g.club_CheckEntrants), (107, SS_club_ranked g.club_ranked)] [(9, [1]), (34, [2]), (35, [3]), (38, [4])] [(8, ⟨[1, 7, 18, 19, 20], [(7, 103, 0)], [], []⟩)] [(8, ⟨[7], [], [0], []⟩)] [(8, pieceOf sh_club_Table_L8 (LP_club_Table_L8 g g.N))] [] [] [] [(107, 0)] []
theorem ct_club_Table [Fuel] : NatTab (E_club_Table I_club_Table).C := ct_of (P := Tryz.prog) (T := T) (.cons ok_kit_IsKey (.cons ok_club_CheckEntrants (.cons ok_club_ranked .nil))) (by kernel_rfl)
noncomputable def cb_club_Table_L8 : Code := sub [1, 1, 1, 1, 0, 1, 0, 0] code_60
theorem s_club_Table_L8 (g : C_club_Table) (n : Nat) : StepOk (E_club_Table g) g.N cb_club_Table_L8 sh_club_Table_L8 (LP_club_Table_L8 g) n := by intro ps; unfold LP_club_Table_L8; split; exact .inr fun R K => (by kernel_rfl); exact .inl fun R K => rfl
theorem lf_club_Table_L8 [Fuel] : LoopFine (E_club_Table I_club_Table) NN cb_club_Table_L8 := fine_loop sh_club_Table_L8 (LP_club_Table_L8 I_club_Table) (by kernel_rfl) ct_club_Table (cuts0 (fun _ => rfl) (by kernel_rfl)) (fun ps R K => by unfold LP_club_Table_L8; split <;> (try unfold club_Table_L8) <;> rfl) (s_club_Table_L8 I_club_Table)
theorem sm_club_Table (g : C_club_Table) : Same (SS_club_Table (@club_Table_ g)) (abody (E_club_Table g) Tryz.f60 code_60 5 [] [.arr 103, .asis] g.N) := by intro args; unfold SS_club_Table; split; exact .inr fun R k => (by kernel_rfl); exact .inl fun R k => rfl
theorem ok_club_Table [Fuel] : Ok 60 (SS_club_Table (@club_Table _)) := okF_of std (.cons ok_kit_IsKey (.cons ok_club_CheckEntrants (.cons ok_club_ranked .nil))) ⟨rfl, rfl, by kernel_rfl, rfl, rfl, rfl⟩ (sm_club_Table I_club_Table) (cutsL (fun _ => rfl) (.cons lf_club_Table_L8 .nil) (by kernel_rfl)) Tryz.func60 (by kernel_rfl) (by kernel_rfl)
abbrev T_law_joinedClub : Type 1 := {R : Type} → (Bool → Option R) → Option R
structure C_law_joinedClub where
  N : Nat
  club_Table : T_club_Table
def law_joinedClub_ (g : C_law_joinedClub)  {R : Type} (k0 : Bool → Option R) : Option R :=
  (g.club_Table [(⟨[107, 49, 97, 98], [99], 5, []⟩ : G_Entrant)] [99] (fun r1 r2 => (bif (r2 == 0) then (bif ((r1.length : Int) == 1) then (inr r1 0 (at_ r1 0 fun x3 => k0 (x3.f_Points == 5))) else k0 false) else k0 false)))
noncomputable def I_law_joinedClub [Fuel] : C_law_joinedClub := ⟨NN, @club_Table _⟩
noncomputable def law_joinedClub [Fuel] : T_law_joinedClub := @law_joinedClub_ I_law_joinedClub
def SS_law_joinedClub (g : T_law_joinedClub) : Spec A := fun args => match args with | [] => fun k => g (fun z0 => k (.d (.bool z0)) []) | _ => fun _ => none
noncomputable def code_21 : Code := (Tryz.f21.body).getD .skip
noncomputable def E_law_joinedClub (g : C_law_joinedClub) : Env A := mkE [(60, SS_club_Table g.club_Table)] [(5, [0]), (6, [1])] [] [] [] [] [] [] [] []
theorem sm_law_joinedClub (g : C_law_joinedClub) : Same (SS_law_joinedClub (@law_joinedClub_ g)) (abody (E_law_joinedClub g) Tryz.f21 code_21 2 [] [.asis] g.N) := by intro args; unfold SS_law_joinedClub; split; exact .inr fun R k => (by kernel_rfl); exact .inl fun R k => rfl
theorem ok_law_joinedClub [Fuel] : Ok 21 (SS_law_joinedClub (@law_joinedClub _)) := okF_of std (.cons ok_club_Table .nil) ⟨rfl, rfl, by kernel_rfl, rfl, rfl, rfl⟩ (sm_law_joinedClub I_law_joinedClub) (cuts0 (fun _ => rfl) (by kernel_rfl)) Tryz.func21 (by kernel_rfl) (by kernel_rfl)
abbrev T_slices_Equal__Best_n1 : Type 1 := List G_Best → {R : Type} → (Bool → Option R) → Option R
def slices_Equal__Best_n1_L4 (g : Nat) : Nat → List G_Best → Int → Int → {R : Type} → Option R → Option R
  | 0, _, _, _, _, _ => none
  | n + 1, v2, v3, v4, _, e0 => (bif (decide (v4 < v3)) then (get_ v2 v4 fun x6 => none) else e0)
def slices_Equal__Best_n1_ (g : Nat) (a1 : List G_Best) {R : Type} (k0 : Bool → Option R) : Option R :=
  (bif ((a1.length : Int) != 0) then k0 false else (slices_Equal__Best_n1_L4 g g a1 (a1.length : Int) 0 (k0 true)))
noncomputable def slices_Equal__Best_n1 [Fuel] : T_slices_Equal__Best_n1 := @slices_Equal__Best_n1_ NN
def SS_slices_Equal__Best_n1 (g : T_slices_Equal__Best_n1) : Spec A := fun args => match args with | [.d (.sl 78 a1), .d .nsl] => fun k => g a1 (fun z0 => k (.d (.bool z0)) [.undef, .undef]) | _ => fun _ => none
def sh_slices_Equal__Best_n1_L4 : SSt := mkSh 26 0 [(0, .sl 78), (1, .nsl), (12, .int .i64), (13, .int .i64)] []
def LP_slices_Equal__Best_n1_L4 (g : Nat) (n : Nat) : LPT A := fun ps => match ps with | [.d (.sl 78 p1), .d (.int .i64 p2), .d (.int .i64 p3)] => fun K => slices_Equal__Best_n1_L4 g n p1 p2 p3 (K (.exit 0) (mkSt 26 0 [] [])) | _ => fun _ => none
noncomputable def E_slices_Equal__Best_n1 (g : Nat) : Env A := mkE [] [] [(4, ⟨[0, 1, 12, 13], [], [], []⟩)] [(4, ⟨[], [], [], []⟩)] [(4, pieceOf sh_slices_Equal__Best_n1_L4 (LP_slices_Equal__Best_n1_L4 g g))] [] [] [] [] []
theorem ct_slices_Equal__Best_n1 [Fuel] : NatTab (E_slices_Equal__Best_n1 NN).C := ct_of (P := Tryz.prog) (T := T) .nil (by kernel_rfl)
noncomputable def cb_slices_Equal__Best_n1_L4 : Code := sub [1, 1, 0, 1, 0, 0] code_41
theorem s_slices_Equal__Best_n1_L4 (g : Nat) (n : Nat) : StepOk (E_slices_Equal__Best_n1 g) g cb_slices_Equal__Best_n1_L4 sh_slices_Equal__Best_n1_L4 (LP_slices_Equal__Best_n1_L4 g) n := by intro ps; unfold LP_slices_Equal__Best_n1_L4; split; exact .inr fun R K => (by kernel_rfl); exact .inl fun R K => rfl
theorem lf_slices_Equal__Best_n1_L4 [Fuel] : LoopFine (E_slices_Equal__Best_n1 NN) NN cb_slices_Equal__Best_n1_L4 := fine_loop sh_slices_Equal__Best_n1_L4 (LP_slices_Equal__Best_n1_L4 NN) (by kernel_rfl) ct_slices_Equal__Best_n1 (cuts0 (fun _ => rfl) (by kernel_rfl)) (fun ps R K => by unfold LP_slices_Equal__Best_n1_L4; split <;> (try unfold slices_Equal__Best_n1_L4) <;> rfl) (s_slices_Equal__Best_n1_L4 NN)
theorem sm_slices_Equal__Best_n1 (g : Nat) : Same (SS_slices_Equal__Best_n1 (@slices_Equal__Best_n1_ g)) (abody (E_slices_Equal__Best_n1 g) Tryz.f41 code_41 0 [] [.asis] g) := by intro args; unfold SS_slices_Equal__Best_n1; split; exact .inr fun R k => (by kernel_rfl); exact .inl fun R k => rfl
theorem ok_slices_Equal__Best_n1 [Fuel] : Ok 41 (SS_slices_Equal__Best_n1 (@slices_Equal__Best_n1 _)) := okF_of std .nil ⟨rfl, rfl, by kernel_rfl, rfl, rfl, rfl⟩ (sm_slices_Equal__Best_n1 NN) (cutsL (fun _ => rfl) (.cons lf_slices_Equal__Best_n1_L4 .nil) (by kernel_rfl)) Tryz.func41 (by kernel_rfl) (by kernel_rfl)
abbrev T_law_RecordsKept : Type 1 := List Int → {R : Type} → (Bool → Option R) → Option R
structure C_law_RecordsKept where
  N : Nat
  Stream_Pick : T_Stream_Pick
  law_errs : T_law_errs
  law_joinedClub : T_law_joinedClub
  law_dayFault : T_law_dayFault
  Stream_Tries : T_Stream_Tries
  club_Records : T_club_Records
  Q_TriesFault : T_Q_TriesFault
  Q_RecordsOf : T_Q_RecordsOf
  club_CheckTries : T_club_CheckTries
  slices_Equal__Best : T_slices_Equal__Best
  slices_Equal__Best_n1 : T_slices_Equal__Best_n1
def law_RecordsKept_ (g : C_law_RecordsKept) (a1 : List Int) {R : Type} (k0 : Bool → Option R) : Option R :=
  (g.Stream_Tries (⟨a1, 0⟩ : G_Stream) (fun r2 r3 => (g.Stream_Pick r3 [0, 2, 4, 9, (-1), 4001] (fun r4 r5 => (g.club_Records r2 r4 (fun r6 r7 => (g.Q_TriesFault r2 (fun r8 => (g.law_dayFault r4 (fun r9 => (g.law_errs [r8, r9] (fun r10 => (bif (r10 == 0) then (g.Q_RecordsOf r2 r4 (fun r11 => (g.club_CheckTries r2 (fun r12 => (g.Q_TriesFault r2 (fun r13 => (bif (r12 == r13) then (bif (r7 == r10) then (g.slices_Equal__Best r6 r11 (fun r14 => (bif r14 then (g.law_joinedClub (fun r15 => k0 r15)) else k0 false))) else k0 false) else k0 false))))))) else (g.club_CheckTries r2 (fun r16 => (g.Q_TriesFault r2 (fun r17 => (bif (r16 == r17) then (bif (r7 == r10) then (g.slices_Equal__Best_n1 r6 (fun r18 => (bif r18 then (g.law_joinedClub (fun r19 => k0 r19)) else k0 false))) else k0 false) else k0 false))))))))))))))))))
noncomputable def I_law_RecordsKept [Fuel] : C_law_RecordsKept := ⟨NN, @Stream_Pick _, @law_errs _, @law_joinedClub _, @law_dayFault _, @Stream_Tries _, @club_Records _, @Q_TriesFault _, @Q_RecordsOf _, @club_CheckTries _, @slices_Equal__Best _, @slices_Equal__Best_n1 _⟩
noncomputable def law_RecordsKept [Fuel] : T_law_RecordsKept := @law_RecordsKept_ I_law_RecordsKept
def SS_law_RecordsKept (g : T_law_RecordsKept) : Spec A := fun args => match args with | [.d (.sl 3 a1)] => fun k => g a1 (fun z0 => k (.d (.bool z0)) [.undef]) | _ => fun _ => none
noncomputable def code_5 : Code := (Tryz.f5.body).getD .skip
noncomputable def E_law_RecordsKept (g : C_law_RecordsKept) : Env A := mkE [(9, SS_Stream_Pick g.Stream_Pick), (13, SS_law_errs g.law_errs), (21, SS_law_joinedClub g.law_joinedClub), (29, SS_law_dayFault g.law_dayFault), (36, SS_Stream_Tries g.Stream_Tries), (37, SS_club_Records g.club_Records), (38, SS_Q_TriesFault g.Q_TriesFault), (39, SS_Q_RecordsOf g.Q_RecordsOf), (40, SS_club_CheckTries g.club_CheckTries), (41, orS p_slices_Equal__Best (SS_slices_Equal__Best g.slices_Equal__Best) (SS_slices_Equal__Best_n1 g.slices_Equal__Best_n1))] [(12, [0]), (14, [1]), (16, [2]), (21, [3]), (28, [4]), (34, [5])] [] [] [] [] [] [] [] []
theorem sm_law_RecordsKept (g : C_law_RecordsKept) : Same (SS_law_RecordsKept (@law_RecordsKept_ g)) (abody (E_law_RecordsKept g) Tryz.f5 code_5 6 [] [.asis] g.N) := by intro args; unfold SS_law_RecordsKept; split; exact .inr fun R k => (by kernel_rfl); exact .inl fun R k => rfl
theorem ok_law_RecordsKept [Fuel] : Ok 5 (SS_law_RecordsKept (@law_RecordsKept _)) := okF_of std (.cons ok_Stream_Pick (.cons ok_law_errs (.cons ok_law_joinedClub (.cons ok_law_dayFault (.cons ok_Stream_Tries (.cons ok_club_Records (.cons ok_Q_TriesFault (.cons ok_Q_RecordsOf (.cons ok_club_CheckTries (.cons (ok_or p_slices_Equal__Best ok_slices_Equal__Best ok_slices_Equal__Best_n1) .nil)))))))))) ⟨rfl, rfl, by kernel_rfl, rfl, rfl, rfl⟩ (sm_law_RecordsKept I_law_RecordsKept) (cuts0 (fun _ => rfl) (by kernel_rfl)) Tryz.func5 (by kernel_rfl) (by kernel_rfl)
end Go.Am
