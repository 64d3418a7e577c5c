/- The functions of the program as Lean functions, each shown to be what the code computes, part 6. No condition: lemmas for the claim. -/
import Derived.Test.YtonhhbcacemaiaaGreatDoorF0
import Derived.Test.YtonhhbcacemaiaaGreatDoorFSh
import Derived.Test.YtonhhbcacemaiaaGreatDoorF3
import Derived.Test.YtonhhbcacemaiaaGreatDoorF4
import Derived.Test.YtonhhbcacemaiaaGreatDoorF5
set_option linter.unusedVariables false
set_option maxRecDepth 100000
namespace Go.Am
open Go Go.Proofs
abbrev T_z49z : Type 1 := G_Place → G_Place → {R : Type} → (Int → Option R) → Option R
structure C_z49z where
 N : Nat
 strings_Compare : T_strings_Compare
 z34z : T_z34z
 z35z : T_z35z
def z49z_ (g : C_z49z) (a1 a2 : G_Place) {R : Type} (k0 : Int → Option R) : Option R :=
 (g.z35z a2.f_Points a1.f_Points (fun r3 => (g.strings_Compare a1.f_Key a2.f_Key (fun r4 => (g.z34z [r3, r4] (fun r5 => k0 r5))))))
noncomputable def I_z49z [Fuel] : C_z49z := ⟨NN, @strings_Compare _, @z34z _, @z35z _⟩
noncomputable def z49z [Fuel] : T_z49z := @z49z_ I_z49z
def SS_z49z (g : T_z49z) : Spec A := fun args => match args with | [.agg [.d (.int .i64 a1), .d (.int .i64 a2), .d (.str a3)], .agg [.d (.int .i64 a4), .d (.int .i64 a5), .d (.str a6)]] => fun k => g ⟨a1, a2, a3⟩ ⟨a4, a5, a6⟩ (fun z0 => k (.d (.int .i64 z0)) [.undef, .undef]) | _ => fun _ => none
noncomputable def code_168 : Code := (Tryz.f168.body).getD .skip
noncomputable def E_z49z (g : C_z49z) : Env A := mkE [(56, SS_strings_Compare g.strings_Compare), (77, SS_z34z g.z34z), (105, SS_z35z g.z35z)] [(2, [0]), (3, [1]), (15, [2])] [] [] [] [] [] [] [] []
theorem sm_z49z (g : C_z49z) : Same (SS_z49z (@z49z_ g)) (abody (E_z49z g) Tryz.f168 code_168 3 [] [.asis] g.N) := by intro args; unfold SS_z49z; split; exact .inr fun R k => (by kernel_rfl); exact .inl fun R k => rfl
theorem ok_z49z [Fuel] : Ok 168 (SS_z49z (@z49z _)) := okF_of std (.cons ok_strings_Compare (.cons ok_z34z (.cons ok_z35z .nil))) ⟨rfl, rfl, by kernel_rfl, rfl, rfl, rfl⟩ (sm_z49z I_z49z) (cuts0 (fun _ => rfl) (by kernel_rfl)) Tryz.func168 (by kernel_rfl) (by kernel_rfl)
noncomputable def Ed_z49z (g : C_z49z) : Env A := mkED [(56, SS_strings_Compare g.strings_Compare), (77, SS_z34z g.z34z), (105, SS_z35z g.z35z)] [(2, [0]), (3, [1]), (15, [2])] [] [] [] [] [] [] [] []
theorem smd_z49z (g : C_z49z) : Same (SS_z49z (@z49z_ g)) (abody (Ed_z49z g) Tryz.f168 code_168 3 [] [.asis] g.N) := by intro args; unfold SS_z49z; split; exact .inr fun R k => (by kernel_rfl); exact .inl fun R k => rfl
theorem okd_z49z [Fuel] : OkD 168 (SS_z49z (@z49z _)) := okF_of stdD (.cons okd_strings_Compare (.cons okd_z34z (.cons okd_z35z .nil))) ⟨rfl, rfl, by kernel_rfl, rfl, rfl, rfl⟩ (smd_z49z I_z49z) (cuts0 (fun _ => rfl) (by kernel_rfl)) Tryz.func168 (by kernel_rfl) (by kernel_rfl)
abbrev T_z44z : Type 1 := List G_Place → {R : Type} → (List G_Place → Option R) → Option R
noncomputable def z44z [Fuel] : T_z44z := @X_sortf G_Place (@z49z _)
def SS_z44z (g : T_z44z) : Spec A := fun args => match args with | [.arr 172 a1, .fn 168 []] => fun k => g a1 (fun z => k (.tup []) [.arr 172 z, .fn 168 []]) | _ => fun _ => none
theorem h1_z44z [Fuel] (xs : List (A 172)) (R : Type) (k : IV A → List (IV A) → Option R) : SS_z44z (@z44z _) [.arr 172 xs, .fn 168 []] k = X_sortf (α := A 172) (@z49z _) xs (fun z => k (.tup []) [.arr 172 z, .fn 168 []]) := by kernel_rfl
theorem h2_z44z [Fuel] (args : List (IV A)) (R : Type) (k : IV A → List (IV A) → Option R) (h : ∀ xs : List (A 172), args ≠ [.arr 172 xs, .fn 168 []]) : SS_z44z (@z44z _) args k = none := by unfold SS_z44z; split; exact absurd rfl (h _); rfl
theorem hc_z44z [Fuel] (x y : A 172) (R : Type) (k : Int → Option R) : callOf T (SS_z49z (@z49z _)) 172 x y k = @z49z _ x y R k := by kernel_rfl
theorem hs_z44z (x : G_Place) : (enc_e172 x).all scal = true := rfl
theorem ok_z44z [Fuel] : Ok 167 (SS_z44z (@z44z _)) := ⟨sortf_sound (tyOk Tryz.prog) (e := 172) Tryz.sortf167 Tryz.isAgg172 Tryz.sizeOf172 (fun x d hd => List.all_eq_true.1 (hs_z44z x) d hd) hc_z44z okd_z49z.fs okd_z49z.en h1_z44z h2_z44z, sortf_na (e := 172) h1_z44z h2_z44z, enters_of (fn := Tryz.f167) Tryz.func167 (by kernel_rfl) (by kernel_rfl)⟩
abbrev T_z25z : Type 1 := List G_Place → {R : Type} → (List G_Place → Option R) → Option R
structure C_z25z where
 N : Nat
 z44z : T_z44z
def z25z_L3 (g : C_z25z) : Nat → Int → Int → List G_Place → {R : Type} → (List G_Place → Option R) → Option R
 | 0, _, _, _, _, _ => none
 | n + 1, v3, v4, v5, _, e0 => (bif (decide (v4 < v3)) then (inr v5 v4 (at_ v5 v4 fun x11 => (bif (decide (v4 > 0)) then (inr (set_ v5 v4 (⟨(w64 (v4 + 1)), x11.f_Points, x11.f_Key⟩ : G_Place)) v4 (at_ (set_ v5 v4 (⟨(w64 (v4 + 1)), x11.f_Points, x11.f_Key⟩ : G_Place)) v4 fun x12 => (inr (set_ v5 v4 (⟨(w64 (v4 + 1)), x11.f_Points, x11.f_Key⟩ : G_Place)) (w64 (v4 - 1)) (at_ (set_ v5 v4 (⟨(w64 (v4 + 1)), x11.f_Points, x11.f_Key⟩ : G_Place)) (w64 (v4 - 1)) fun x13 => (bif (x12.f_Points == x13.f_Points) then (inr (set_ v5 v4 (⟨(w64 (v4 + 1)), x11.f_Points, x11.f_Key⟩ : G_Place)) (w64 (v4 - 1)) (at_ (set_ v5 v4 (⟨(w64 (v4 + 1)), x11.f_Points, x11.f_Key⟩ : G_Place)) (w64 (v4 - 1)) fun x14 => (inr (set_ v5 v4 (⟨(w64 (v4 + 1)), x11.f_Points, x11.f_Key⟩ : G_Place)) v4 (at_ (set_ v5 v4 (⟨(w64 (v4 + 1)), x11.f_Points, x11.f_Key⟩ : G_Place)) v4 fun x15 => z25z_L3 g n v3 (w64 (v4 + 1)) (set_ (set_ v5 v4 (⟨(w64 (v4 + 1)), x11.f_Points, x11.f_Key⟩ : G_Place)) v4 (⟨x14.f_Rank, x15.f_Points, x15.f_Key⟩ : G_Place)) e0)))) else z25z_L3 g n v3 (w64 (v4 + 1)) (set_ v5 v4 (⟨(w64 (v4 + 1)), x11.f_Points, x11.f_Key⟩ : G_Place)) e0))))) else z25z_L3 g n v3 (w64 (v4 + 1)) (set_ v5 v4 (⟨(w64 (v4 + 1)), x11.f_Points, x11.f_Key⟩ : G_Place)) e0))) else e0 v5)
def z25z_ (g : C_z25z) (a1 : List G_Place) {R : Type} (k0 : List G_Place → Option R) : Option R :=
 (g.z44z a1 (fun r2 => (z25z_L3 g g.N (r2.length : Int) 0 r2 (fun e16 => k0 e16))))
noncomputable def I_z25z [Fuel] : C_z25z := ⟨NN, @z44z _⟩
noncomputable def z25z [Fuel] : T_z25z := @z25z_ I_z25z
def SS_z25z (g : T_z25z) : Spec A := fun args => match args with | [.arr 172 a1] => fun k => g a1 (fun z0 => k (.arr 172 z0) [.undef]) | _ => fun _ => none
def sh_z25z_L3 : SSt := mkSh 45 1 [(0, .own 172 0), (7, .int .i64), (8, .int .i64)] [(0, .row 172)]
def LP_z25z_L3 (g : C_z25z) (n : Nat) : LPT A := fun ps => match ps with | [.d (.int .i64 p1), .d (.int .i64 p2), .d (.sl 172 p3)] => fun K => z25z_L3 g n p1 p2 p3 (fun z0 => K (.exit 0) (mkSt 45 1 [(0, .own 172 0)] [(0, some (.row 172 z0))])) | _ => fun _ => none
noncomputable def code_119 : Code := (Tryz.f119.body).getD .skip
noncomputable def E_z25z (g : C_z25z) : Env A := mkE [(167, SS_z44z g.z44z)] [] [(3, ⟨[0, 7, 8], [], [0], [], [], []⟩)] [(3, ⟨[0], [], [0], [], [], []⟩)] [(3, pieceOf sh_z25z_L3 (LP_z25z_L3 g g.N))] [] [] [] [(167, 0)] []
theorem ct_z25z [Fuel] : NatTab (E_z25z I_z25z).C := ct_of (P := Tryz.prog) (T := T) (.cons ok_z44z .nil) (by kernel_rfl)
noncomputable def cb_z25z_L3 : Code := sub [1, 1, 0, 1, 0, 0] code_119
theorem s_z25z_L3 (g : C_z25z) (n : Nat) : StepOk (E_z25z g) g.N cb_z25z_L3 sh_z25z_L3 (LP_z25z_L3 g) n := by intro ps; unfold LP_z25z_L3; split; exact .inr fun R K => (by kernel_rfl); exact .inl fun R K => rfl
theorem lf_z25z_L3 [Fuel] : LoopFine (E_z25z I_z25z) NN cb_z25z_L3 := fine_loop sh_z25z_L3 (LP_z25z_L3 I_z25z) (by kernel_rfl) ct_z25z (cuts0 (fun _ => rfl) (by kernel_rfl)) (fun ps R K => by unfold LP_z25z_L3; split <;> (try unfold z25z_L3) <;> rfl) (s_z25z_L3 I_z25z)
theorem sm_z25z (g : C_z25z) : Same (SS_z25z (@z25z_ g)) (abody (E_z25z g) Tryz.f119 code_119 1 [0] [.arr 172] g.N) := by intro args; unfold SS_z25z; split; exact .inr fun R k => (by kernel_rfl); exact .inl fun R k => rfl
theorem ok_z25z [Fuel] : Ok 119 (SS_z25z (@z25z _)) := okF_of std (.cons ok_z44z .nil) ⟨rfl, rfl, by kernel_rfl, rfl, rfl, rfl⟩ (sm_z25z I_z25z) (cutsL (fun _ => rfl) (.cons lf_z25z_L3 .nil) (by kernel_rfl)) Tryz.func119 (by kernel_rfl) (by kernel_rfl)
abbrev T_club_Table : Type 1 := List G_Entrant → List UInt8 → {R : Type} → (List G_Place → Int → Option R) → Option R
structure C_club_Table where
 N : Nat
 kit_IsKey : T_kit_IsKey
 z38z : T_z38z
 z25z : T_z25z
def club_Table_L8 (g : C_club_Table) : Nat → List UInt8 → List G_Entrant → Int → Int → List G_Place → {R : Type} → (List G_Place → Option R) → Option R
 | 0, _, _, _, _, _, _, _ => none
 | n + 1, v5, v6, v7, v8, v9, _, e0 => (bif (decide (v8 < v7)) then (get_ v6 v8 fun x11 => (bif (x11.f_Category == v5) then (bif (decide ((v9.length + [(⟨0, x11.f_Points, x11.f_Call⟩ : G_Place)].length) * 32 ≤ roomBytes')) then club_Table_L8 g n v5 v6 v7 (w64 (v8 + 1)) (v9 ++ [(⟨0, x11.f_Points, x11.f_Call⟩ : G_Place)]) e0 else none) else club_Table_L8 g n v5 v6 v7 (w64 (v8 + 1)) v9 e0)) else e0 v9)
def club_Table_ (g : C_club_Table) (a1 : List G_Entrant) (a2 : List UInt8) {R : Type} (k0 : List G_Place → Int → Option R) : Option R :=
 (g.z38z a1 (fun r3 => (bif (r3 != 0) then k0 [] r3 else (g.kit_IsKey a2 (fun r4 => (bif (!r4) then k0 [] 5 else (club_Table_L8 g g.N a2 a1 (a1.length : Int) 0 [] (fun e12 => (g.z25z e12 (fun r13 => k0 r13 0))))))))))
noncomputable def I_club_Table [Fuel] : C_club_Table := ⟨NN, @kit_IsKey _, @z38z _, @z25z _⟩
noncomputable def club_Table [Fuel] : T_club_Table := @club_Table_ I_club_Table
def SS_club_Table (g : T_club_Table) : Spec A := fun args => match args with | [.d (.sl 112 a1), .d (.str a2)] => fun k => g a1 a2 (fun z0 z1 => k (.tup [.arr 172 z0, .d (.int .i64 z1)]) [.undef, .undef]) | _ => fun _ => none
def sh_club_Table_L8 : SSt := mkSh 39 5 [(1, .str), (7, .own 172 0), (18, .sl 112), (19, .int .i64), (20, .int .i64)] [(0, .row 172)]
def LP_club_Table_L8 (g : C_club_Table) (n : Nat) : LPT A := fun ps => match ps with | [.d (.str p1), .d (.sl 112 p2), .d (.int .i64 p3), .d (.int .i64 p4), .d (.sl 172 p5)] => fun K => club_Table_L8 g n p1 p2 p3 p4 p5 (fun z0 => K (.exit 0) (mkSt 39 5 [(7, .own 172 0)] [(0, some (.row 172 z0))])) | _ => fun _ => none
noncomputable def code_58 : Code := (Tryz.f58.body).getD .skip
noncomputable def E_club_Table (g : C_club_Table) : Env A := mkE [(49, SS_kit_IsKey g.kit_IsKey), (118, SS_z38z g.z38z), (119, SS_z25z g.z25z)] [(9, [1]), (34, [2]), (35, [3]), (38, [4])] [(8, ⟨[1, 7, 18, 19, 20], [(7, 172, 0)], [], [], [], []⟩)] [(8, ⟨[7], [], [0], [], [], []⟩)] [(8, pieceOf sh_club_Table_L8 (LP_club_Table_L8 g g.N))] [] [] [] [(119, 0)] []
theorem ct_club_Table [Fuel] : NatTab (E_club_Table I_club_Table).C := ct_of (P := Tryz.prog) (T := T) (.cons ok_kit_IsKey (.cons ok_z38z (.cons ok_z25z .nil))) (by kernel_rfl)
noncomputable def cb_club_Table_L8 : Code := sub [1, 1, 1, 1, 0, 1, 0, 0] code_58
theorem s_club_Table_L8 (g : C_club_Table) (n : Nat) : StepOk (E_club_Table g) g.N cb_club_Table_L8 sh_club_Table_L8 (LP_club_Table_L8 g) n := by intro ps; unfold LP_club_Table_L8; split; exact .inr fun R K => (by kernel_rfl); exact .inl fun R K => rfl
theorem lf_club_Table_L8 [Fuel] : LoopFine (E_club_Table I_club_Table) NN cb_club_Table_L8 := fine_loop sh_club_Table_L8 (LP_club_Table_L8 I_club_Table) (by kernel_rfl) ct_club_Table (cuts0 (fun _ => rfl) (by kernel_rfl)) (fun ps R K => by unfold LP_club_Table_L8; split <;> (try unfold club_Table_L8) <;> rfl) (s_club_Table_L8 I_club_Table)
theorem sm_club_Table (g : C_club_Table) : Same (SS_club_Table (@club_Table_ g)) (abody (E_club_Table g) Tryz.f58 code_58 5 [] [.arr 172, .asis] g.N) := by intro args; unfold SS_club_Table; split; exact .inr fun R k => (by kernel_rfl); exact .inl fun R k => rfl
theorem ok_club_Table [Fuel] : Ok 58 (SS_club_Table (@club_Table _)) := okF_of std (.cons ok_kit_IsKey (.cons ok_z38z (.cons ok_z25z .nil))) ⟨rfl, rfl, by kernel_rfl, rfl, rfl, rfl⟩ (sm_club_Table I_club_Table) (cutsL (fun _ => rfl) (.cons lf_club_Table_L8 .nil) (by kernel_rfl)) Tryz.func58 (by kernel_rfl) (by kernel_rfl)
abbrev T_z91z : Type 1 := G_Deed → {R : Type} → (Int → Option R) → Option R
structure C_z91z where
 N : Nat
 z70z : T_z70z
def z91z_ (g : C_z91z) (a1 : G_Deed) {R : Type} (k0 : Int → Option R) : Option R :=
 (g.z70z a1.f_Contact (fun r2 => (bif (r2 != 0) then k0 r2 else (bif (decide (a1.f_Contact.f_At > a1.f_At)) then k0 1 else k0 0))))
noncomputable def I_z91z [Fuel] : C_z91z := ⟨NN, @z70z _⟩
noncomputable def z91z [Fuel] : T_z91z := @z91z_ I_z91z
def SS_z91z (g : T_z91z) : Spec A := fun args => match args with | [.agg [.d (.str a1), .d (.int .i64 a2), .d (.int .i64 a3), .d (.int .i64 a4), .d (.int .i64 a5), .d (.int .i64 a6), .d (.str a7), .d (.str a8), .d (.int .i64 a9), .d (.int .i64 a10), .d (.str a11), .d (.str a12), .d (.str a13), .d (.str a14), .d (.int .i64 a15)]] => fun k => g ⟨a1, a2, a3, a4, ⟨a5, a6, a7, a8, a9, a10, a11, a12⟩, a13, a14, a15⟩ (fun z0 => k (.d (.int .i64 z0)) [.undef]) | _ => fun _ => none
noncomputable def code_313 : Code := (Tryz.f313.body).getD .skip
noncomputable def E_z91z (g : C_z91z) : Env A := mkE [(164, SS_z70z g.z70z)] [(1, [0])] [] [] [] [] [] [] [] []
theorem sm_z91z (g : C_z91z) : Same (SS_z91z (@z91z_ g)) (abody (E_z91z g) Tryz.f313 code_313 1 [] [.asis] g.N) := by intro args; unfold SS_z91z; split; exact .inr fun R k => (by kernel_rfl); exact .inl fun R k => rfl
theorem ok_z91z [Fuel] : Ok 313 (SS_z91z (@z91z _)) := okF_of std (.cons ok_z70z .nil) ⟨rfl, rfl, by kernel_rfl, rfl, rfl, rfl⟩ (sm_z91z I_z91z) (cuts0 (fun _ => rfl) (by kernel_rfl)) Tryz.func313 (by kernel_rfl) (by kernel_rfl)
abbrev T_z89z : Type 1 := G_Deed → {R : Type} → (Int → Option R) → Option R
structure C_z89z where
 N : Nat
 kit_IsKey : T_kit_IsKey
 z52z : T_z52z
 z91z : T_z91z
def z89z_ (g : C_z89z) (a1 : G_Deed) {R : Type} (k0 : Int → Option R) : Option R :=
 (bif (a1.f_Kind == 1) then (g.z91z a1 (fun r2 => k0 r2)) else (bif (a1.f_Kind == 2) then (g.kit_IsKey a1.f_Band (fun r3 => (bif (!r3) then k0 5 else k0 0))) else (bif (a1.f_Kind == 5) then (g.kit_IsKey a1.f_Of (fun r4 => (bif (!r4) then k0 5 else (g.z52z a1.f_Other 1 1000000 (fun r5 => (bif r5 then k0 1 else k0 0)))))) else (g.z52z a1.f_Contact.f_Sent 1 99999 (fun r6 => (bif r6 then k0 1 else k0 0))))))
noncomputable def I_z89z [Fuel] : C_z89z := ⟨NN, @kit_IsKey _, @z52z _, @z91z _⟩
noncomputable def z89z [Fuel] : T_z89z := @z89z_ I_z89z
def SS_z89z (g : T_z89z) : Spec A := fun args => match args with | [.agg [.d (.str a1), .d (.int .i64 a2), .d (.int .i64 a3), .d (.int .i64 a4), .d (.int .i64 a5), .d (.int .i64 a6), .d (.str a7), .d (.str a8), .d (.int .i64 a9), .d (.int .i64 a10), .d (.str a11), .d (.str a12), .d (.str a13), .d (.str a14), .d (.int .i64 a15)]] => fun k => g ⟨a1, a2, a3, a4, ⟨a5, a6, a7, a8, a9, a10, a11, a12⟩, a13, a14, a15⟩ (fun z0 => k (.d (.int .i64 z0)) [.undef]) | _ => fun _ => none
noncomputable def code_295 : Code := (Tryz.f295.body).getD .skip
noncomputable def E_z89z (g : C_z89z) : Env A := mkE [(49, SS_kit_IsKey g.kit_IsKey), (60, SS_z52z g.z52z), (313, SS_z91z g.z91z)] [(1, [0])] [] [] [] [] [] [] [] []
theorem sm_z89z (g : C_z89z) : Same (SS_z89z (@z89z_ g)) (abody (E_z89z g) Tryz.f295 code_295 1 [] [.asis] g.N) := by intro args; unfold SS_z89z; split; exact .inr fun R k => (by kernel_rfl); exact .inl fun R k => rfl
theorem ok_z89z [Fuel] : Ok 295 (SS_z89z (@z89z _)) := okF_of std (.cons ok_kit_IsKey (.cons ok_z52z (.cons ok_z91z .nil))) ⟨rfl, rfl, by kernel_rfl, rfl, rfl, rfl⟩ (sm_z89z I_z89z) (cuts0 (fun _ => rfl) (by kernel_rfl)) Tryz.func295 (by kernel_rfl) (by kernel_rfl)
abbrev T_net_idle : Type 1 := G_Deed → {R : Type} → (Bool → Option R) → Option R
def net_idle_ (g : Nat) (a1 : G_Deed) {R : Type} (k0 : Bool → Option R) : Option R :=
 (bif (a1.f_Kind == 3) then (bif (a1.f_Kind == 1) then (bif (a1.f_Kind == 2) then (bif (a1.f_Kind == 5) then k0 true else (bif (a1.f_Of == []) then k0 (a1.f_Other == 0) else k0 false)) else (bif (a1.f_Band == []) then (bif (a1.f_Kind == 5) then k0 true else (bif (a1.f_Of == []) then k0 (a1.f_Other == 0) else k0 false)) else k0 false)) else (bif (eq_G_Contact a1.f_Contact (⟨0, 0, [], [], a1.f_Contact.f_Sent, 0, [], []⟩ : G_Contact)) then (bif (a1.f_Kind == 2) then (bif (a1.f_Kind == 5) then k0 true else (bif (a1.f_Of == []) then k0 (a1.f_Other == 0) else k0 false)) else (bif (a1.f_Band == []) then (bif (a1.f_Kind == 5) then k0 true else (bif (a1.f_Of == []) then k0 (a1.f_Other == 0) else k0 false)) else k0 false)) else k0 false)) else (bif (a1.f_Kind == 4) then (bif (a1.f_Kind == 1) then (bif (a1.f_Kind == 2) then (bif (a1.f_Kind == 5) then k0 true else (bif (a1.f_Of == []) then k0 (a1.f_Other == 0) else k0 false)) else (bif (a1.f_Band == []) then (bif (a1.f_Kind == 5) then k0 true else (bif (a1.f_Of == []) then k0 (a1.f_Other == 0) else k0 false)) else k0 false)) else (bif (eq_G_Contact a1.f_Contact (⟨0, 0, [], [], a1.f_Contact.f_Sent, 0, [], []⟩ : G_Contact)) then (bif (a1.f_Kind == 2) then (bif (a1.f_Kind == 5) then k0 true else (bif (a1.f_Of == []) then k0 (a1.f_Other == 0) else k0 false)) else (bif (a1.f_Band == []) then (bif (a1.f_Kind == 5) then k0 true else (bif (a1.f_Of == []) then k0 (a1.f_Other == 0) else k0 false)) else k0 false)) else k0 false)) else (bif (a1.f_Kind == 1) then (bif (a1.f_Kind == 2) then (bif (a1.f_Kind == 5) then k0 true else (bif (a1.f_Of == []) then k0 (a1.f_Other == 0) else k0 false)) else (bif (a1.f_Band == []) then (bif (a1.f_Kind == 5) then k0 true else (bif (a1.f_Of == []) then k0 (a1.f_Other == 0) else k0 false)) else k0 false)) else (bif (eq_G_Contact a1.f_Contact (⟨0, 0, [], [], 0, 0, [], []⟩ : G_Contact)) then (bif (a1.f_Kind == 2) then (bif (a1.f_Kind == 5) then k0 true else (bif (a1.f_Of == []) then k0 (a1.f_Other == 0) else k0 false)) else (bif (a1.f_Band == []) then (bif (a1.f_Kind == 5) then k0 true else (bif (a1.f_Of == []) then k0 (a1.f_Other == 0) else k0 false)) else k0 false)) else k0 false))))
noncomputable def net_idle [Fuel] : T_net_idle := @net_idle_ NN
def SS_net_idle (g : T_net_idle) : Spec A := fun args => match args with | [.agg [.d (.str a1), .d (.int .i64 a2), .d (.int .i64 a3), .d (.int .i64 a4), .d (.int .i64 a5), .d (.int .i64 a6), .d (.str a7), .d (.str a8), .d (.int .i64 a9), .d (.int .i64 a10), .d (.str a11), .d (.str a12), .d (.str a13), .d (.str a14), .d (.int .i64 a15)]] => fun k => g ⟨a1, a2, a3, a4, ⟨a5, a6, a7, a8, a9, a10, a11, a12⟩, a13, a14, a15⟩ (fun z0 => k (.d (.bool z0)) [.undef]) | _ => fun _ => none
noncomputable def code_296 : Code := (Tryz.f296.body).getD .skip
noncomputable def E_net_idle (g : Nat) : Env A := mkE [] [(1, [0]), (5, [1])] [] [] [] [] [] [] [] []
theorem sm_net_idle (g : Nat) : Same (SS_net_idle (@net_idle_ g)) (abody (E_net_idle g) Tryz.f296 code_296 2 [] [.asis] g) := by intro args; unfold SS_net_idle; split; exact .inr fun R k => (by kernel_rfl); exact .inl fun R k => rfl
theorem ok_net_idle [Fuel] : Ok 296 (SS_net_idle (@net_idle _)) := okF_of std .nil ⟨rfl, rfl, by kernel_rfl, rfl, rfl, rfl⟩ (sm_net_idle NN) (cuts0 (fun _ => rfl) (by kernel_rfl)) Tryz.func296 (by kernel_rfl) (by kernel_rfl)
abbrev T_net_formed : Type 1 := G_Deed → {R : Type} → (Int → Option R) → Option R
structure C_net_formed where
 N : Nat
 kit_IsKey : T_kit_IsKey
 z65z : T_z65z
 z52z : T_z52z
 z89z : T_z89z
 net_idle : T_net_idle
def net_formed_ (g : C_net_formed) (a1 : G_Deed) {R : Type} (k0 : Int → Option R) : Option R :=
 (g.kit_IsKey a1.f_Site (fun r2 => (bif (!r2) then k0 5 else (g.z52z a1.f_No 1 1000000 (fun r3 => (bif r3 then k0 1 else (g.z65z a1.f_At (fun r4 => (bif (!r4) then k0 1 else (g.z52z a1.f_Kind 1 5 (fun r5 => (bif r5 then k0 4 else (g.z89z a1 (fun r6 => (bif (r6 != 0) then k0 r6 else (g.net_idle a1 (fun r7 => (bif (!r7) then k0 3 else k0 0))))))))))))))))))
noncomputable def I_net_formed [Fuel] : C_net_formed := ⟨NN, @kit_IsKey _, @z65z _, @z52z _, @z89z _, @net_idle _⟩
noncomputable def net_formed [Fuel] : T_net_formed := @net_formed_ I_net_formed
def SS_net_formed (g : T_net_formed) : Spec A := fun args => match args with | [.agg [.d (.str a1), .d (.int .i64 a2), .d (.int .i64 a3), .d (.int .i64 a4), .d (.int .i64 a5), .d (.int .i64 a6), .d (.str a7), .d (.str a8), .d (.int .i64 a9), .d (.int .i64 a10), .d (.str a11), .d (.str a12), .d (.str a13), .d (.str a14), .d (.int .i64 a15)]] => fun k => g ⟨a1, a2, a3, a4, ⟨a5, a6, a7, a8, a9, a10, a11, a12⟩, a13, a14, a15⟩ (fun z0 => k (.d (.int .i64 z0)) [.undef]) | _ => fun _ => none
noncomputable def code_269 : Code := (Tryz.f269.body).getD .skip
noncomputable def E_net_formed (g : C_net_formed) : Env A := mkE [(49, SS_kit_IsKey g.kit_IsKey), (51, SS_z65z g.z65z), (60, SS_z52z g.z52z), (295, SS_z89z g.z89z), (296, SS_net_idle g.net_idle)] [(1, [0])] [] [] [] [] [] [] [] []
theorem sm_net_formed (g : C_net_formed) : Same (SS_net_formed (@net_formed_ g)) (abody (E_net_formed g) Tryz.f269 code_269 1 [] [.asis] g.N) := by intro args; unfold SS_net_formed; split; exact .inr fun R k => (by kernel_rfl); exact .inl fun R k => rfl
theorem ok_net_formed [Fuel] : Ok 269 (SS_net_formed (@net_formed _)) := okF_of std (.cons ok_kit_IsKey (.cons ok_z65z (.cons ok_z52z (.cons ok_z89z (.cons ok_net_idle .nil))))) ⟨rfl, rfl, by kernel_rfl, rfl, rfl, rfl⟩ (sm_net_formed I_net_formed) (cuts0 (fun _ => rfl) (by kernel_rfl)) Tryz.func269 (by kernel_rfl) (by kernel_rfl)
abbrev T_z93z : Type 1 := G_Deed → G_Deed → {R : Type} → (Int → Option R) → Option R
structure C_z93z where
 N : Nat
 strings_Compare : T_strings_Compare
 z34z : T_z34z
 z35z : T_z35z
def z93z_ (g : C_z93z) (a1 a2 : G_Deed) {R : Type} (k0 : Int → Option R) : Option R :=
 (g.z35z a1.f_At a2.f_At (fun r3 => (g.strings_Compare a1.f_Site a2.f_Site (fun r4 => (g.z35z a1.f_No a2.f_No (fun r5 => (g.z34z [r3, r4, r5] (fun r6 => k0 r6))))))))
noncomputable def I_z93z [Fuel] : C_z93z := ⟨NN, @strings_Compare _, @z34z _, @z35z _⟩
noncomputable def z93z [Fuel] : T_z93z := @z93z_ I_z93z
def SS_z93z (g : T_z93z) : Spec A := fun args => match args with | [.agg [.d (.str a1), .d (.int .i64 a2), .d (.int .i64 a3), .d (.int .i64 a4), .d (.int .i64 a5), .d (.int .i64 a6), .d (.str a7), .d (.str a8), .d (.int .i64 a9), .d (.int .i64 a10), .d (.str a11), .d (.str a12), .d (.str a13), .d (.str a14), .d (.int .i64 a15)], .agg [.d (.str a16), .d (.int .i64 a17), .d (.int .i64 a18), .d (.int .i64 a19), .d (.int .i64 a20), .d (.int .i64 a21), .d (.str a22), .d (.str a23), .d (.int .i64 a24), .d (.int .i64 a25), .d (.str a26), .d (.str a27), .d (.str a28), .d (.str a29), .d (.int .i64 a30)]] => fun k => g ⟨a1, a2, a3, a4, ⟨a5, a6, a7, a8, a9, a10, a11, a12⟩, a13, a14, a15⟩ ⟨a16, a17, a18, a19, ⟨a20, a21, a22, a23, a24, a25, a26, a27⟩, a28, a29, a30⟩ (fun z0 => k (.d (.int .i64 z0)) [.undef, .undef]) | _ => fun _ => none
noncomputable def code_270 : Code := (Tryz.f270.body).getD .skip
noncomputable def E_z93z (g : C_z93z) : Env A := mkE [(56, SS_strings_Compare g.strings_Compare), (77, SS_z34z g.z34z), (105, SS_z35z g.z35z)] [(2, [0]), (3, [1]), (20, [2])] [] [] [] [] [] [] [] []
theorem sm_z93z (g : C_z93z) : Same (SS_z93z (@z93z_ g)) (abody (E_z93z g) Tryz.f270 code_270 3 [] [.asis] g.N) := by intro args; unfold SS_z93z; split; exact .inr fun R k => (by kernel_rfl); exact .inl fun R k => rfl
theorem ok_z93z [Fuel] : Ok 270 (SS_z93z (@z93z _)) := okF_of std (.cons ok_strings_Compare (.cons ok_z34z (.cons ok_z35z .nil))) ⟨rfl, rfl, by kernel_rfl, rfl, rfl, rfl⟩ (sm_z93z I_z93z) (cuts0 (fun _ => rfl) (by kernel_rfl)) Tryz.func270 (by kernel_rfl) (by kernel_rfl)
abbrev T_z36z : Type 1 := List G_Deed → {R : Type} → (Int → Option R) → Option R
structure C_z36z where
 N : Nat
 net_formed : T_net_formed
 z93z : T_z93z
def z36z_L4 (g : C_z36z) : Nat → List G_Deed → List G_Deed → Int → Int → {R : Type} → (List G_Deed → Int → Option R) → (List G_Deed → Option R) → Option R
 | 0, _, _, _, _, _, _, _ => none
 | n + 1, v2, v3, v4, v5, _, e0, e1 => (bif (decide (v5 < v4)) then (get_ v3 v5 fun x10 => (g.net_formed x10 (fun r11 => (bif (r11 != 0) then e0 v2 r11 else (bif (decide (v5 > 0)) then (get_ v2 (w64 (v5 - 1)) fun x12 => (g.z93z x12 x10 (fun r13 => (bif (decide (r13 ≥ 0)) then e0 v2 7 else z36z_L4 g n v2 v3 v4 (w64 (v5 + 1)) e0 e1)))) else z36z_L4 g n v2 v3 v4 (w64 (v5 + 1)) e0 e1))))) else e1 v2)
def z36z_L14 (g : C_z36z) : Nat → List G_Deed → Int → Int → List (G_net_own × Bool) → {R : Type} → (Int → Option R) → Option R → Option R
 | 0, _, _, _, _, _, _, _ => none
 | n + 1, v17, v18, v19, v20, _, e0, e1 => (bif (decide (v19 < v18)) then (get_ v17 v19 fun x22 => (bif ((mget_net_own_bool (⟨x22.f_Site, x22.f_No⟩ : G_net_own) v20).getD false) then e0 6 else z36z_L14 g n v17 v18 (w64 (v19 + 1)) (mset_net_own_bool (⟨x22.f_Site, x22.f_No⟩ : G_net_own) true v20) e0 e1)) else e1)
def z36z_ (g : C_z36z) (a1 : List G_Deed) {R : Type} (k0 : Int → Option R) : Option R :=
 (bif (decide ((a1.length : Int) > 2000)) then k0 2 else (z36z_L4 g g.N a1 a1 (a1.length : Int) 0 (fun e14 e15 => k0 e15) (fun e16 => (z36z_L14 g g.N e16 (e16.length : Int) 0 [] (fun e23 => k0 e23) (k0 0)))))
noncomputable def I_z36z [Fuel] : C_z36z := ⟨NN, @net_formed _, @z93z _⟩
noncomputable def z36z [Fuel] : T_z36z := @z36z_ I_z36z
def SS_z36z (g : T_z36z) : Spec A := fun args => match args with | [.d (.sl 117 a1)] => fun k => g a1 (fun z0 => k (.d (.int .i64 z0)) [.undef]) | _ => fun _ => none
def sh_z36z_L4 : SSt := mkSh 56 4 [(0, .sl 117), (13, .sl 117), (14, .int .i64), (15, .int .i64)] []
def LP_z36z_L4 (g : C_z36z) (n : Nat) : LPT A := fun ps => match ps with | [.d (.sl 117 p1), .d (.sl 117 p2), .d (.int .i64 p3), .d (.int .i64 p4)] => fun K => z36z_L4 g n p1 p2 p3 p4 (fun z0 z1 => K .ret (mkSt 56 4 [(0, .d (.sl 117 z0)), (2, .d (.int .i64 z1))] [])) (fun z0 => K (.exit 0) (mkSt 56 4 [(0, .d (.sl 117 z0))] [])) | _ => fun _ => none
def sh_z36z_L14 : SSt := mkSh 56 4 [(6, .mp 1), (39, .sl 117), (40, .int .i64), (41, .int .i64)] [(1, .mp 256 4)]
def LP_z36z_L14 (g : C_z36z) (n : Nat) : LPT A := fun ps => match ps with | [.d (.sl 117 p1), .d (.int .i64 p2), .d (.int .i64 p3), .mp 256 4 p4] => fun K => z36z_L14 g n p1 p2 p3 p4 (fun z0 => K .ret (mkSt 56 4 [(2, .d (.int .i64 z0))] [])) (K (.exit 2) (mkSt 56 4 [] [])) | _ => fun _ => none
noncomputable def code_218 : Code := (Tryz.f218.body).getD .skip
noncomputable def E_z36z (g : C_z36z) : Env A := mkE [(269, SS_net_formed g.net_formed), (270, SS_z93z g.z93z)] [(4, [0]), (8, [2]), (9, [3]), (38, [1])] [(4, ⟨[0, 13, 14, 15], [], [], [], [], []⟩), (14, ⟨[6, 39, 40, 41], [], [1], [], [], []⟩)] [(4, ⟨[0, 2], [], [], [], [], []⟩), (14, ⟨[2], [], [], [], [], []⟩)] [(4, pieceOf sh_z36z_L4 (LP_z36z_L4 g g.N)), (14, pieceOf sh_z36z_L14 (LP_z36z_L14 g g.N))] [] [] [] [] []
theorem ct_z36z [Fuel] : NatTab (E_z36z I_z36z).C := ct_of (P := Tryz.prog) (T := T) (.cons ok_net_formed (.cons ok_z93z .nil)) (by kernel_rfl)
noncomputable def cb_z36z_L4 : Code := sub [1, 1, 0, 1, 0, 0] code_218
theorem s_z36z_L4 (g : C_z36z) (n : Nat) : StepOk (E_z36z g) g.N cb_z36z_L4 sh_z36z_L4 (LP_z36z_L4 g) n := by intro ps; unfold LP_z36z_L4; split; exact .inr fun R K => (by kernel_rfl); exact .inl fun R K => rfl
theorem lf_z36z_L4 [Fuel] : LoopFine (E_z36z I_z36z) NN cb_z36z_L4 := fine_loop sh_z36z_L4 (LP_z36z_L4 I_z36z) (by kernel_rfl) ct_z36z (cuts0 (fun _ => rfl) (by kernel_rfl)) (fun ps R K => by unfold LP_z36z_L4; split <;> (try unfold z36z_L4) <;> rfl) (s_z36z_L4 I_z36z)
noncomputable def cb_z36z_L14 : Code := sub [1, 1, 1, 1, 0, 1, 0, 0] code_218
theorem s_z36z_L14 (g : C_z36z) (n : Nat) : StepOk (E_z36z g) g.N cb_z36z_L14 sh_z36z_L14 (LP_z36z_L14 g) n := by intro ps; unfold LP_z36z_L14; split; exact .inr fun R K => (by kernel_rfl); exact .inl fun R K => rfl
theorem lf_z36z_L14 [Fuel] : LoopFine (E_z36z I_z36z) NN cb_z36z_L14 := fine_loop sh_z36z_L14 (LP_z36z_L14 I_z36z) (by kernel_rfl) ct_z36z (cuts0 (fun _ => rfl) (by kernel_rfl)) (fun ps R K => by unfold LP_z36z_L14; split <;> (try unfold z36z_L14) <;> rfl) (s_z36z_L14 I_z36z)
theorem sm_z36z (g : C_z36z) : Same (SS_z36z (@z36z_ g)) (abody (E_z36z g) Tryz.f218 code_218 4 [] [.asis] g.N) := by intro args; unfold SS_z36z; split; exact .inr fun R k => (by kernel_rfl); exact .inl fun R k => rfl
theorem ok_z36z [Fuel] : Ok 218 (SS_z36z (@z36z _)) := okF_of std (.cons ok_net_formed (.cons ok_z93z .nil)) ⟨rfl, rfl, by kernel_rfl, rfl, rfl, rfl⟩ (sm_z36z I_z36z) (cutsL (fun _ => rfl) (.cons lf_z36z_L4 (.cons lf_z36z_L14 .nil)) (by kernel_rfl)) Tryz.func218 (by kernel_rfl) (by kernel_rfl)
abbrev T_z84z : Type 1 := List G_Deed → Int → {R : Type} → (Int → Option R) → Option R
structure C_z84z where
 N : Nat
 z65z : T_z65z
 z36z : T_z36z
def z84z_ (g : C_z84z) (a1 : List G_Deed) (a2 : Int) {R : Type} (k0 : Int → Option R) : Option R :=
 (g.z36z a1 (fun r3 => (bif (r3 != 0) then k0 r3 else (g.z65z a2 (fun r4 => (bif (!r4) then k0 1 else k0 0))))))
noncomputable def I_z84z [Fuel] : C_z84z := ⟨NN, @z65z _, @z36z _⟩
noncomputable def z84z [Fuel] : T_z84z := @z84z_ I_z84z
def SS_z84z (g : T_z84z) : Spec A := fun args => match args with | [.d (.sl 117 a1), .d (.int .i64 a2)] => fun k => g a1 a2 (fun z0 => k (.d (.int .i64 z0)) [.undef, .undef]) | _ => fun _ => none
noncomputable def code_169 : Code := (Tryz.f169.body).getD .skip
noncomputable def E_z84z (g : C_z84z) : Env A := mkE [(51, SS_z65z g.z65z), (218, SS_z36z g.z36z)] [] [] [] [] [] [] [] [] []
theorem sm_z84z (g : C_z84z) : Same (SS_z84z (@z84z_ g)) (abody (E_z84z g) Tryz.f169 code_169 0 [] [.asis] g.N) := by intro args; unfold SS_z84z; split; exact .inr fun R k => (by kernel_rfl); exact .inl fun R k => rfl
theorem ok_z84z [Fuel] : Ok 169 (SS_z84z (@z84z _)) := okF_of std (.cons ok_z65z (.cons ok_z36z .nil)) ⟨rfl, rfl, by kernel_rfl, rfl, rfl, rfl⟩ (sm_z84z I_z84z) (cuts0 (fun _ => rfl) (by kernel_rfl)) Tryz.func169 (by kernel_rfl) (by kernel_rfl)
abbrev T_z79z : Type 1 := List G_Deed → {R : Type} → (List G_Deed → Option R) → Option R
def z79z_ (g : Nat) (a1 : List G_Deed) {R : Type} (k0 : List G_Deed → Option R) : Option R :=
 k0 a1
noncomputable def z79z [Fuel] : T_z79z := @z79z_ NN
def SS_z79z (g : T_z79z) : Spec A := fun args => match args with | [.d (.sl 117 a1)] => fun k => g a1 (fun z0 => k (.fn 297 [.box [.d (.sl 117 z0)]]) [.undef]) | _ => fun _ => none
noncomputable def code_271 : Code := (Tryz.f271.body).getD .skip
noncomputable def E_z79z (g : Nat) : Env A := mkE [] [(1, [0])] [] [] [] [] [] [] [] []
theorem sm_z79z (g : Nat) : Same (SS_z79z (@z79z_ g)) (abody (E_z79z g) Tryz.f271 code_271 1 [] [.asis] g) := by intro args; unfold SS_z79z; split; exact .inr fun R k => (by kernel_rfl); exact .inl fun R k => rfl
theorem ok_z79z [Fuel] : Ok 271 (SS_z79z (@z79z _)) := okF_of std .nil ⟨rfl, rfl, by kernel_rfl, rfl, rfl, rfl⟩ (sm_z79z NN) (cuts0 (fun _ => rfl) (by kernel_rfl)) Tryz.func271 (by kernel_rfl) (by kernel_rfl)
abbrev T_z50z : Type 1 := List Int → {R : Type} → (List Int → Option R) → Option R
def z50z_L1 (g : Nat) : Nat → Int → Int → List Int → {R : Type} → (List Int → Option R) → Option R
 | 0, _, _, _, _, _ => none
 | n + 1, v2, v3, v4, _, e0 => (bif (decide (v2 < v3)) then (inr v4 v3 (at_ v4 v3 fun x9 => (inr v4 v2 (at_ v4 v2 fun x10 => (inr v4 v2 (at_ v4 v2 fun x11 => (inr (set_ v4 v2 x9) v3 (at_ (set_ v4 v2 x9) v3 fun x12 => z50z_L1 g n (w64 (v2 + 1)) (w64 (v3 - 1)) (set_ (set_ v4 v2 x9) v3 x10) e0)))))))) else e0 v4)
def z50z_ (g : Nat) (a1 : List Int) {R : Type} (k0 : List Int → Option R) : Option R :=
 (z50z_L1 g g 0 (w64 ((a1.length : Int) - 1)) a1 (fun e13 => k0 e13))
noncomputable def z50z [Fuel] : T_z50z := @z50z_ NN
def SS_z50z (g : T_z50z) : Spec A := fun args => match args with | [.arr 3 a1] => fun k => g a1 (fun z0 => k (.tup []) [.arr 3 z0]) | _ => fun _ => none
def sh_z50z_L1 : SSt := mkSh 28 1 [(0, .own 3 0), (2, .int .i64), (3, .int .i64)] [(0, .row 3)]
def LP_z50z_L1 (g : Nat) (n : Nat) : LPT A := fun ps => match ps with | [.d (.int .i64 p1), .d (.int .i64 p2), .d (.sl 3 p3)] => fun K => z50z_L1 g n p1 p2 p3 (fun z0 => K (.exit 0) (mkSt 28 1 [(0, .own 3 0)] [(0, some (.row 3 z0))])) | _ => fun _ => none
noncomputable def code_272 : Code := (Tryz.f272.body).getD .skip
noncomputable def E_z50z (g : Nat) : Env A := mkE [] [] [(1, ⟨[0, 2, 3], [], [0], [], [], []⟩)] [(1, ⟨[0], [], [0], [], [], []⟩)] [(1, pieceOf sh_z50z_L1 (LP_z50z_L1 g g))] [] [] [] [] [0]
theorem ct_z50z [Fuel] : NatTab (E_z50z NN).C := ct_of (P := Tryz.prog) (T := T) .nil (by kernel_rfl)
noncomputable def cb_z50z_L1 : Code := sub [1, 0, 0] code_272
theorem s_z50z_L1 (g : Nat) (n : Nat) : StepOk (E_z50z g) g cb_z50z_L1 sh_z50z_L1 (LP_z50z_L1 g) n := by intro ps; unfold LP_z50z_L1; split; exact .inr fun R K => (by kernel_rfl); exact .inl fun R K => rfl
theorem lf_z50z_L1 [Fuel] : LoopFine (E_z50z NN) NN cb_z50z_L1 := fine_loop sh_z50z_L1 (LP_z50z_L1 NN) (by kernel_rfl) ct_z50z (cuts0 (fun _ => rfl) (by kernel_rfl)) (fun ps R K => by unfold LP_z50z_L1; split <;> (try unfold z50z_L1) <;> rfl) (s_z50z_L1 NN)
theorem sm_z50z (g : Nat) : Same (SS_z50z (@z50z_ g)) (abody (E_z50z g) Tryz.f272 code_272 1 [0] [] g) := by intro args; unfold SS_z50z; split; exact .inr fun R k => (by kernel_rfl); exact .inl fun R k => rfl
theorem ok_z50z [Fuel] : Ok 272 (SS_z50z (@z50z _)) := okF_of std .nil ⟨rfl, rfl, by kernel_rfl, rfl, rfl, rfl⟩ (sm_z50z NN) (cutsL (fun _ => rfl) (.cons lf_z50z_L1 .nil) (by kernel_rfl)) Tryz.func272 (by kernel_rfl) (by kernel_rfl)
end Go.Am
