/- The functions of the program as Lean functions, each shown to be what the code computes, part 6. No condition: lemmas for the claim. -/
import Derived.Test.YtocbeijefjbpgaaGreatDoorF0
import Derived.Test.YtocbeijefjbpgaaGreatDoorFSh
import Derived.Test.YtocbeijefjbpgaaGreatDoorF3
import Derived.Test.YtocbeijefjbpgaaGreatDoorF4
import Derived.Test.YtocbeijefjbpgaaGreatDoorF5
set_option linter.unusedVariables false
set_option maxRecDepth 100000
namespace Go.Am
open Go Go.Proofs
abbrev T_net_usedFault : Type 1 := G_Deed → {R : Type} → (Int → Option R) → Option R
structure C_net_usedFault where
 N : Nat
 kit_IsKey : T_kit_IsKey
 kit_Outside : T_kit_Outside
 net_logFault : T_net_logFault
def net_usedFault_ (g : C_net_usedFault) (a1 : G_Deed) {R : Type} (k0 : Int → Option R) : Option R :=
 (bif (a1.f_Kind == 1) then (g.net_logFault a1 (fun r2 => k0 r2)) else (bif (a1.f_Kind == 2) then (g.kit_IsKey a1.f_Band (fun r3 => (bif (!r3) then k0 5 else k0 0))) else (bif (a1.f_Kind == 5) then (g.kit_IsKey a1.f_Of (fun r4 => (bif (!r4) then k0 5 else (g.kit_Outside a1.f_Other 1 1000000 (fun r5 => (bif r5 then k0 1 else k0 0)))))) else (g.kit_Outside a1.f_Contact.f_Sent 1 99999 (fun r6 => (bif r6 then k0 1 else k0 0))))))
noncomputable def I_net_usedFault [Fuel] : C_net_usedFault := ⟨NN, @kit_IsKey _, @kit_Outside _, @net_logFault _⟩
noncomputable def net_usedFault [Fuel] : T_net_usedFault := @net_usedFault_ I_net_usedFault
def SS_net_usedFault (g : T_net_usedFault) : Spec A := fun args => match args with | [.agg [.d (.str a1), .d (.int .i64 a2), .d (.int .i64 a3), .d (.int .i64 a4), .d (.int .i64 a5), .d (.int .i64 a6), .d (.str a7), .d (.str a8), .d (.int .i64 a9), .d (.int .i64 a10), .d (.str a11), .d (.str a12), .d (.str a13), .d (.str a14), .d (.int .i64 a15)]] => fun k => g ⟨a1, a2, a3, a4, ⟨a5, a6, a7, a8, a9, a10, a11, a12⟩, a13, a14, a15⟩ (fun z0 => k (.d (.int .i64 z0)) [.undef]) | _ => fun _ => none
noncomputable def code_174 : Code := (Tryz.f174.body).getD .skip
noncomputable def E_net_usedFault (g : C_net_usedFault) : Env A := mkE [(28, SS_kit_IsKey g.kit_IsKey), (36, SS_kit_Outside g.kit_Outside), (191, SS_net_logFault g.net_logFault)] [(1, [0])] [] [] [] [] [] [] [] []
theorem sm_net_usedFault (g : C_net_usedFault) : Same (SS_net_usedFault (@net_usedFault_ g)) (abody (E_net_usedFault g) Tryz.f174 code_174 1 [] [.asis] g.N) := by intro args; unfold SS_net_usedFault; split; exact .inr fun R k => (by kernel_rfl); exact .inl fun R k => rfl
theorem ok_net_usedFault [Fuel] : Ok 174 (SS_net_usedFault (@net_usedFault _)) := okF_of std (.cons ok_kit_IsKey (.cons ok_kit_Outside (.cons ok_net_logFault .nil))) ⟨rfl, rfl, by kernel_rfl, rfl, rfl, rfl⟩ (sm_net_usedFault I_net_usedFault) (cuts0 (fun _ => rfl) (by kernel_rfl)) Tryz.func174 (by kernel_rfl) (by kernel_rfl)
abbrev T_net_idle : Type 1 := G_Deed → {R : Type} → (Bool → Option R) → Option R
def net_idle_ (g : Nat) (a1 : G_Deed) {R : Type} (k0 : Bool → Option R) : Option R :=
 (bif (a1.f_Kind == 3) then (bif (a1.f_Kind == 1) then (bif (a1.f_Kind == 2) then (bif (a1.f_Kind == 5) then k0 true else (bif (a1.f_Of == []) then k0 (a1.f_Other == 0) else k0 false)) else (bif (a1.f_Band == []) then (bif (a1.f_Kind == 5) then k0 true else (bif (a1.f_Of == []) then k0 (a1.f_Other == 0) else k0 false)) else k0 false)) else (bif (eq_G_Contact a1.f_Contact (⟨0, 0, [], [], a1.f_Contact.f_Sent, 0, [], []⟩ : G_Contact)) then (bif (a1.f_Kind == 2) then (bif (a1.f_Kind == 5) then k0 true else (bif (a1.f_Of == []) then k0 (a1.f_Other == 0) else k0 false)) else (bif (a1.f_Band == []) then (bif (a1.f_Kind == 5) then k0 true else (bif (a1.f_Of == []) then k0 (a1.f_Other == 0) else k0 false)) else k0 false)) else k0 false)) else (bif (a1.f_Kind == 4) then (bif (a1.f_Kind == 1) then (bif (a1.f_Kind == 2) then (bif (a1.f_Kind == 5) then k0 true else (bif (a1.f_Of == []) then k0 (a1.f_Other == 0) else k0 false)) else (bif (a1.f_Band == []) then (bif (a1.f_Kind == 5) then k0 true else (bif (a1.f_Of == []) then k0 (a1.f_Other == 0) else k0 false)) else k0 false)) else (bif (eq_G_Contact a1.f_Contact (⟨0, 0, [], [], a1.f_Contact.f_Sent, 0, [], []⟩ : G_Contact)) then (bif (a1.f_Kind == 2) then (bif (a1.f_Kind == 5) then k0 true else (bif (a1.f_Of == []) then k0 (a1.f_Other == 0) else k0 false)) else (bif (a1.f_Band == []) then (bif (a1.f_Kind == 5) then k0 true else (bif (a1.f_Of == []) then k0 (a1.f_Other == 0) else k0 false)) else k0 false)) else k0 false)) else (bif (a1.f_Kind == 1) then (bif (a1.f_Kind == 2) then (bif (a1.f_Kind == 5) then k0 true else (bif (a1.f_Of == []) then k0 (a1.f_Other == 0) else k0 false)) else (bif (a1.f_Band == []) then (bif (a1.f_Kind == 5) then k0 true else (bif (a1.f_Of == []) then k0 (a1.f_Other == 0) else k0 false)) else k0 false)) else (bif (eq_G_Contact a1.f_Contact (⟨0, 0, [], [], 0, 0, [], []⟩ : G_Contact)) then (bif (a1.f_Kind == 2) then (bif (a1.f_Kind == 5) then k0 true else (bif (a1.f_Of == []) then k0 (a1.f_Other == 0) else k0 false)) else (bif (a1.f_Band == []) then (bif (a1.f_Kind == 5) then k0 true else (bif (a1.f_Of == []) then k0 (a1.f_Other == 0) else k0 false)) else k0 false)) else k0 false))))
noncomputable def net_idle [Fuel] : T_net_idle := @net_idle_ NN
def SS_net_idle (g : T_net_idle) : Spec A := fun args => match args with | [.agg [.d (.str a1), .d (.int .i64 a2), .d (.int .i64 a3), .d (.int .i64 a4), .d (.int .i64 a5), .d (.int .i64 a6), .d (.str a7), .d (.str a8), .d (.int .i64 a9), .d (.int .i64 a10), .d (.str a11), .d (.str a12), .d (.str a13), .d (.str a14), .d (.int .i64 a15)]] => fun k => g ⟨a1, a2, a3, a4, ⟨a5, a6, a7, a8, a9, a10, a11, a12⟩, a13, a14, a15⟩ (fun z0 => k (.d (.bool z0)) [.undef]) | _ => fun _ => none
noncomputable def code_175 : Code := (Tryz.f175.body).getD .skip
noncomputable def E_net_idle (g : Nat) : Env A := mkE [] [(1, [0]), (5, [1])] [] [] [] [] [] [] [] []
theorem sm_net_idle (g : Nat) : Same (SS_net_idle (@net_idle_ g)) (abody (E_net_idle g) Tryz.f175 code_175 2 [] [.asis] g) := by intro args; unfold SS_net_idle; split; exact .inr fun R k => (by kernel_rfl); exact .inl fun R k => rfl
theorem ok_net_idle [Fuel] : Ok 175 (SS_net_idle (@net_idle _)) := okF_of std .nil ⟨rfl, rfl, by kernel_rfl, rfl, rfl, rfl⟩ (sm_net_idle NN) (cuts0 (fun _ => rfl) (by kernel_rfl)) Tryz.func175 (by kernel_rfl) (by kernel_rfl)
abbrev T_net_formed : Type 1 := G_Deed → {R : Type} → (Int → Option R) → Option R
structure C_net_formed where
 N : Nat
 kit_IsKey : T_kit_IsKey
 kit_Outside : T_kit_Outside
 kit_IsMoment : T_kit_IsMoment
 net_usedFault : T_net_usedFault
 net_idle : T_net_idle
def net_formed_ (g : C_net_formed) (a1 : G_Deed) {R : Type} (k0 : Int → Option R) : Option R :=
 (g.kit_IsKey a1.f_Site (fun r2 => (bif (!r2) then k0 5 else (g.kit_Outside a1.f_No 1 1000000 (fun r3 => (bif r3 then k0 1 else (g.kit_IsMoment a1.f_At (fun r4 => (bif (!r4) then k0 1 else (g.kit_Outside a1.f_Kind 1 5 (fun r5 => (bif r5 then k0 4 else (g.net_usedFault a1 (fun r6 => (bif (r6 != 0) then k0 r6 else (g.net_idle a1 (fun r7 => (bif (!r7) then k0 3 else k0 0))))))))))))))))))
noncomputable def I_net_formed [Fuel] : C_net_formed := ⟨NN, @kit_IsKey _, @kit_Outside _, @kit_IsMoment _, @net_usedFault _, @net_idle _⟩
noncomputable def net_formed [Fuel] : T_net_formed := @net_formed_ I_net_formed
def SS_net_formed (g : T_net_formed) : Spec A := fun args => match args with | [.agg [.d (.str a1), .d (.int .i64 a2), .d (.int .i64 a3), .d (.int .i64 a4), .d (.int .i64 a5), .d (.int .i64 a6), .d (.str a7), .d (.str a8), .d (.int .i64 a9), .d (.int .i64 a10), .d (.str a11), .d (.str a12), .d (.str a13), .d (.str a14), .d (.int .i64 a15)]] => fun k => g ⟨a1, a2, a3, a4, ⟨a5, a6, a7, a8, a9, a10, a11, a12⟩, a13, a14, a15⟩ (fun z0 => k (.d (.int .i64 z0)) [.undef]) | _ => fun _ => none
noncomputable def code_146 : Code := (Tryz.f146.body).getD .skip
noncomputable def E_net_formed (g : C_net_formed) : Env A := mkE [(28, SS_kit_IsKey g.kit_IsKey), (36, SS_kit_Outside g.kit_Outside), (45, SS_kit_IsMoment g.kit_IsMoment), (174, SS_net_usedFault g.net_usedFault), (175, SS_net_idle g.net_idle)] [(1, [0])] [] [] [] [] [] [] [] []
theorem sm_net_formed (g : C_net_formed) : Same (SS_net_formed (@net_formed_ g)) (abody (E_net_formed g) Tryz.f146 code_146 1 [] [.asis] g.N) := by intro args; unfold SS_net_formed; split; exact .inr fun R k => (by kernel_rfl); exact .inl fun R k => rfl
theorem ok_net_formed [Fuel] : Ok 146 (SS_net_formed (@net_formed _)) := okF_of std (.cons ok_kit_IsKey (.cons ok_kit_Outside (.cons ok_kit_IsMoment (.cons ok_net_usedFault (.cons ok_net_idle .nil))))) ⟨rfl, rfl, by kernel_rfl, rfl, rfl, rfl⟩ (sm_net_formed I_net_formed) (cuts0 (fun _ => rfl) (by kernel_rfl)) Tryz.func146 (by kernel_rfl) (by kernel_rfl)
abbrev T_net_compare : Type 1 := G_Deed → G_Deed → {R : Type} → (Int → Option R) → Option R
structure C_net_compare where
 N : Nat
 cmp_Or__int : T_cmp_Or__int
 strings_Compare : T_strings_Compare
 cmp_Compare__int : T_cmp_Compare__int
def net_compare_ (g : C_net_compare) (a1 a2 : G_Deed) {R : Type} (k0 : Int → Option R) : Option R :=
 (g.cmp_Compare__int a1.f_At a2.f_At (fun r3 => (g.strings_Compare a1.f_Site a2.f_Site (fun r4 => (g.cmp_Compare__int a1.f_No a2.f_No (fun r5 => (g.cmp_Or__int [r3, r4, r5] (fun r6 => k0 r6))))))))
noncomputable def I_net_compare [Fuel] : C_net_compare := ⟨NN, @cmp_Or__int _, @strings_Compare _, @cmp_Compare__int _⟩
noncomputable def net_compare [Fuel] : T_net_compare := @net_compare_ I_net_compare
def SS_net_compare (g : T_net_compare) : Spec A := fun args => match args with | [.agg [.d (.str a1), .d (.int .i64 a2), .d (.int .i64 a3), .d (.int .i64 a4), .d (.int .i64 a5), .d (.int .i64 a6), .d (.str a7), .d (.str a8), .d (.int .i64 a9), .d (.int .i64 a10), .d (.str a11), .d (.str a12), .d (.str a13), .d (.str a14), .d (.int .i64 a15)], .agg [.d (.str a16), .d (.int .i64 a17), .d (.int .i64 a18), .d (.int .i64 a19), .d (.int .i64 a20), .d (.int .i64 a21), .d (.str a22), .d (.str a23), .d (.int .i64 a24), .d (.int .i64 a25), .d (.str a26), .d (.str a27), .d (.str a28), .d (.str a29), .d (.int .i64 a30)]] => fun k => g ⟨a1, a2, a3, a4, ⟨a5, a6, a7, a8, a9, a10, a11, a12⟩, a13, a14, a15⟩ ⟨a16, a17, a18, a19, ⟨a20, a21, a22, a23, a24, a25, a26, a27⟩, a28, a29, a30⟩ (fun z0 => k (.d (.int .i64 z0)) [.undef, .undef]) | _ => fun _ => none
noncomputable def code_147 : Code := (Tryz.f147.body).getD .skip
noncomputable def E_net_compare (g : C_net_compare) : Env A := mkE [(54, SS_cmp_Or__int g.cmp_Or__int), (55, SS_strings_Compare g.strings_Compare), (60, SS_cmp_Compare__int g.cmp_Compare__int)] [(2, [0]), (3, [1]), (20, [2])] [] [] [] [] [] [] [] []
theorem sm_net_compare (g : C_net_compare) : Same (SS_net_compare (@net_compare_ g)) (abody (E_net_compare g) Tryz.f147 code_147 3 [] [.asis] g.N) := by intro args; unfold SS_net_compare; split; exact .inr fun R k => (by kernel_rfl); exact .inl fun R k => rfl
theorem ok_net_compare [Fuel] : Ok 147 (SS_net_compare (@net_compare _)) := okF_of std (.cons ok_cmp_Or__int (.cons ok_strings_Compare (.cons ok_cmp_Compare__int .nil))) ⟨rfl, rfl, by kernel_rfl, rfl, rfl, rfl⟩ (sm_net_compare I_net_compare) (cuts0 (fun _ => rfl) (by kernel_rfl)) Tryz.func147 (by kernel_rfl) (by kernel_rfl)
abbrev T_net_CheckDeeds : Type 1 := List G_Deed → {R : Type} → (Int → Option R) → Option R
structure C_net_CheckDeeds where
 N : Nat
 net_formed : T_net_formed
 net_compare : T_net_compare
def net_CheckDeeds_L4 (g : C_net_CheckDeeds) : Nat → List G_Deed → List G_Deed → Int → Int → {R : Type} → (List G_Deed → Int → Option R) → (List G_Deed → Option R) → Option R
 | 0, _, _, _, _, _, _, _ => none
 | n + 1, v2, v3, v4, v5, _, e0, e1 => (bif (decide (v5 < v4)) then (get_ v3 v5 fun x10 => (g.net_formed x10 (fun r11 => (bif (r11 != 0) then e0 v2 r11 else (bif (decide (v5 > 0)) then (get_ v2 (w64 (v5 - 1)) fun x12 => (g.net_compare x12 x10 (fun r13 => (bif (decide (r13 ≥ 0)) then e0 v2 7 else net_CheckDeeds_L4 g n v2 v3 v4 (w64 (v5 + 1)) e0 e1)))) else net_CheckDeeds_L4 g n v2 v3 v4 (w64 (v5 + 1)) e0 e1))))) else e1 v2)
def net_CheckDeeds_L14 (g : C_net_CheckDeeds) : Nat → List G_Deed → Int → Int → List (G_net_own × Bool) → {R : Type} → (Int → Option R) → Option R → Option R
 | 0, _, _, _, _, _, _, _ => none
 | n + 1, v17, v18, v19, v20, _, e0, e1 => (bif (decide (v19 < v18)) then (get_ v17 v19 fun x22 => (bif ((mget_net_own_bool (⟨x22.f_Site, x22.f_No⟩ : G_net_own) v20).getD false) then e0 6 else net_CheckDeeds_L14 g n v17 v18 (w64 (v19 + 1)) (mset_net_own_bool (⟨x22.f_Site, x22.f_No⟩ : G_net_own) true v20) e0 e1)) else e1)
def net_CheckDeeds_ (g : C_net_CheckDeeds) (a1 : List G_Deed) {R : Type} (k0 : Int → Option R) : Option R :=
 (bif (decide ((a1.length : Int) > 2000)) then k0 2 else (net_CheckDeeds_L4 g g.N a1 a1 (a1.length : Int) 0 (fun e14 e15 => k0 e15) (fun e16 => (net_CheckDeeds_L14 g g.N e16 (e16.length : Int) 0 [] (fun e23 => k0 e23) (k0 0)))))
noncomputable def I_net_CheckDeeds [Fuel] : C_net_CheckDeeds := ⟨NN, @net_formed _, @net_compare _⟩
noncomputable def net_CheckDeeds [Fuel] : T_net_CheckDeeds := @net_CheckDeeds_ I_net_CheckDeeds
def SS_net_CheckDeeds (g : T_net_CheckDeeds) : Spec A := fun args => match args with | [.d (.sl 72 a1)] => fun k => g a1 (fun z0 => k (.d (.int .i64 z0)) [.undef]) | _ => fun _ => none
def sh_net_CheckDeeds_L4 : SSt := mkSh 56 4 [(0, .sl 72), (13, .sl 72), (14, .int .i64), (15, .int .i64)] []
def LP_net_CheckDeeds_L4 (g : C_net_CheckDeeds) (n : Nat) : LPT A := fun ps => match ps with | [.d (.sl 72 p1), .d (.sl 72 p2), .d (.int .i64 p3), .d (.int .i64 p4)] => fun K => net_CheckDeeds_L4 g n p1 p2 p3 p4 (fun z0 z1 => K .ret (mkSt 56 4 [(0, .d (.sl 72 z0)), (2, .d (.int .i64 z1))] [])) (fun z0 => K (.exit 0) (mkSt 56 4 [(0, .d (.sl 72 z0))] [])) | _ => fun _ => none
def sh_net_CheckDeeds_L14 : SSt := mkSh 56 4 [(6, .mp 1), (39, .sl 72), (40, .int .i64), (41, .int .i64)] [(1, .mp 148 4)]
def LP_net_CheckDeeds_L14 (g : C_net_CheckDeeds) (n : Nat) : LPT A := fun ps => match ps with | [.d (.sl 72 p1), .d (.int .i64 p2), .d (.int .i64 p3), .mp 148 4 p4] => fun K => net_CheckDeeds_L14 g n p1 p2 p3 p4 (fun z0 => K .ret (mkSt 56 4 [(2, .d (.int .i64 z0))] [])) (K (.exit 2) (mkSt 56 4 [] [])) | _ => fun _ => none
noncomputable def code_116 : Code := (Tryz.f116.body).getD .skip
noncomputable def E_net_CheckDeeds (g : C_net_CheckDeeds) : Env A := mkE [(146, SS_net_formed g.net_formed), (147, SS_net_compare g.net_compare)] [(4, [0]), (8, [2]), (9, [3]), (38, [1])] [(4, ⟨[0, 13, 14, 15], [], [], [], [], []⟩), (14, ⟨[6, 39, 40, 41], [], [1], [], [], []⟩)] [(4, ⟨[0, 2], [], [], [], [], []⟩), (14, ⟨[2], [], [], [], [], []⟩)] [(4, pieceOf sh_net_CheckDeeds_L4 (LP_net_CheckDeeds_L4 g g.N)), (14, pieceOf sh_net_CheckDeeds_L14 (LP_net_CheckDeeds_L14 g g.N))] [] [] [] [] []
theorem ct_net_CheckDeeds [Fuel] : NatTab (E_net_CheckDeeds I_net_CheckDeeds).C := ct_of (P := Tryz.prog) (T := T) (.cons ok_net_formed (.cons ok_net_compare .nil)) (by kernel_rfl)
noncomputable def cb_net_CheckDeeds_L4 : Code := sub [1, 1, 0, 1, 0, 0] code_116
theorem s_net_CheckDeeds_L4 (g : C_net_CheckDeeds) (n : Nat) : StepOk (E_net_CheckDeeds g) g.N cb_net_CheckDeeds_L4 sh_net_CheckDeeds_L4 (LP_net_CheckDeeds_L4 g) n := by intro ps; unfold LP_net_CheckDeeds_L4; split; exact .inr fun R K => (by kernel_rfl); exact .inl fun R K => rfl
theorem lf_net_CheckDeeds_L4 [Fuel] : LoopFine (E_net_CheckDeeds I_net_CheckDeeds) NN cb_net_CheckDeeds_L4 := fine_loop sh_net_CheckDeeds_L4 (LP_net_CheckDeeds_L4 I_net_CheckDeeds) (by kernel_rfl) ct_net_CheckDeeds (cuts0 (fun _ => rfl) (by kernel_rfl)) (fun ps R K => by unfold LP_net_CheckDeeds_L4; split <;> (try unfold net_CheckDeeds_L4) <;> rfl) (s_net_CheckDeeds_L4 I_net_CheckDeeds)
noncomputable def cb_net_CheckDeeds_L14 : Code := sub [1, 1, 1, 1, 0, 1, 0, 0] code_116
theorem s_net_CheckDeeds_L14 (g : C_net_CheckDeeds) (n : Nat) : StepOk (E_net_CheckDeeds g) g.N cb_net_CheckDeeds_L14 sh_net_CheckDeeds_L14 (LP_net_CheckDeeds_L14 g) n := by intro ps; unfold LP_net_CheckDeeds_L14; split; exact .inr fun R K => (by kernel_rfl); exact .inl fun R K => rfl
theorem lf_net_CheckDeeds_L14 [Fuel] : LoopFine (E_net_CheckDeeds I_net_CheckDeeds) NN cb_net_CheckDeeds_L14 := fine_loop sh_net_CheckDeeds_L14 (LP_net_CheckDeeds_L14 I_net_CheckDeeds) (by kernel_rfl) ct_net_CheckDeeds (cuts0 (fun _ => rfl) (by kernel_rfl)) (fun ps R K => by unfold LP_net_CheckDeeds_L14; split <;> (try unfold net_CheckDeeds_L14) <;> rfl) (s_net_CheckDeeds_L14 I_net_CheckDeeds)
theorem sm_net_CheckDeeds (g : C_net_CheckDeeds) : Same (SS_net_CheckDeeds (@net_CheckDeeds_ g)) (abody (E_net_CheckDeeds g) Tryz.f116 code_116 4 [] [.asis] g.N) := by intro args; unfold SS_net_CheckDeeds; split; exact .inr fun R k => (by kernel_rfl); exact .inl fun R k => rfl
theorem ok_net_CheckDeeds [Fuel] : Ok 116 (SS_net_CheckDeeds (@net_CheckDeeds _)) := okF_of std (.cons ok_net_formed (.cons ok_net_compare .nil)) ⟨rfl, rfl, by kernel_rfl, rfl, rfl, rfl⟩ (sm_net_CheckDeeds I_net_CheckDeeds) (cutsL (fun _ => rfl) (.cons lf_net_CheckDeeds_L4 (.cons lf_net_CheckDeeds_L14 .nil)) (by kernel_rfl)) Tryz.func116 (by kernel_rfl) (by kernel_rfl)
abbrev T_net_askedFault : Type 1 := List G_Deed → Int → {R : Type} → (Int → Option R) → Option R
structure C_net_askedFault where
 N : Nat
 kit_IsMoment : T_kit_IsMoment
 net_CheckDeeds : T_net_CheckDeeds
def net_askedFault_ (g : C_net_askedFault) (a1 : List G_Deed) (a2 : Int) {R : Type} (k0 : Int → Option R) : Option R :=
 (g.net_CheckDeeds a1 (fun r3 => (bif (r3 != 0) then k0 r3 else (g.kit_IsMoment a2 (fun r4 => (bif (!r4) then k0 1 else k0 0))))))
noncomputable def I_net_askedFault [Fuel] : C_net_askedFault := ⟨NN, @kit_IsMoment _, @net_CheckDeeds _⟩
noncomputable def net_askedFault [Fuel] : T_net_askedFault := @net_askedFault_ I_net_askedFault
def SS_net_askedFault (g : T_net_askedFault) : Spec A := fun args => match args with | [.d (.sl 72 a1), .d (.int .i64 a2)] => fun k => g a1 a2 (fun z0 => k (.d (.int .i64 z0)) [.undef, .undef]) | _ => fun _ => none
noncomputable def code_84 : Code := (Tryz.f84.body).getD .skip
noncomputable def E_net_askedFault (g : C_net_askedFault) : Env A := mkE [(45, SS_kit_IsMoment g.kit_IsMoment), (116, SS_net_CheckDeeds g.net_CheckDeeds)] [] [] [] [] [] [] [] [] []
theorem sm_net_askedFault (g : C_net_askedFault) : Same (SS_net_askedFault (@net_askedFault_ g)) (abody (E_net_askedFault g) Tryz.f84 code_84 0 [] [.asis] g.N) := by intro args; unfold SS_net_askedFault; split; exact .inr fun R k => (by kernel_rfl); exact .inl fun R k => rfl
theorem ok_net_askedFault [Fuel] : Ok 84 (SS_net_askedFault (@net_askedFault _)) := okF_of std (.cons ok_kit_IsMoment (.cons ok_net_CheckDeeds .nil)) ⟨rfl, rfl, by kernel_rfl, rfl, rfl, rfl⟩ (sm_net_askedFault I_net_askedFault) (cuts0 (fun _ => rfl) (by kernel_rfl)) Tryz.func84 (by kernel_rfl) (by kernel_rfl)
abbrev T_slices_Backward__Deed : Type 1 := List G_Deed → {R : Type} → (List G_Deed → Option R) → Option R
def slices_Backward__Deed_ (g : Nat) (a1 : List G_Deed) {R : Type} (k0 : List G_Deed → Option R) : Option R :=
 k0 a1
noncomputable def slices_Backward__Deed [Fuel] : T_slices_Backward__Deed := @slices_Backward__Deed_ NN
def SS_slices_Backward__Deed (g : T_slices_Backward__Deed) : Spec A := fun args => match args with | [.d (.sl 72 a1)] => fun k => g a1 (fun z0 => k (.fn 176 [.box [.d (.sl 72 z0)]]) [.undef]) | _ => fun _ => none
noncomputable def code_148 : Code := (Tryz.f148.body).getD .skip
noncomputable def E_slices_Backward__Deed (g : Nat) : Env A := mkE [] [(1, [0])] [] [] [] [] [] [] [] []
theorem sm_slices_Backward__Deed (g : Nat) : Same (SS_slices_Backward__Deed (@slices_Backward__Deed_ g)) (abody (E_slices_Backward__Deed g) Tryz.f148 code_148 1 [] [.asis] g) := by intro args; unfold SS_slices_Backward__Deed; split; exact .inr fun R k => (by kernel_rfl); exact .inl fun R k => rfl
theorem ok_slices_Backward__Deed [Fuel] : Ok 148 (SS_slices_Backward__Deed (@slices_Backward__Deed _)) := okF_of std .nil ⟨rfl, rfl, by kernel_rfl, rfl, rfl, rfl⟩ (sm_slices_Backward__Deed NN) (cuts0 (fun _ => rfl) (by kernel_rfl)) Tryz.func148 (by kernel_rfl) (by kernel_rfl)
abbrev T_slices_Reverse__int : Type 1 := List Int → {R : Type} → (List Int → Option R) → Option R
def slices_Reverse__int_L1 (g : Nat) : Nat → Int → Int → List Int → {R : Type} → (List Int → Option R) → Option R
 | 0, _, _, _, _, _ => none
 | n + 1, v2, v3, v4, _, e0 => (bif (decide (v2 < v3)) then (inr v4 v3 (at_ v4 v3 fun x9 => (inr v4 v2 (at_ v4 v2 fun x10 => (inr v4 v2 (at_ v4 v2 fun x11 => (inr (set_ v4 v2 x9) v3 (at_ (set_ v4 v2 x9) v3 fun x12 => slices_Reverse__int_L1 g n (w64 (v2 + 1)) (w64 (v3 - 1)) (set_ (set_ v4 v2 x9) v3 x10) e0)))))))) else e0 v4)
def slices_Reverse__int_ (g : Nat) (a1 : List Int) {R : Type} (k0 : List Int → Option R) : Option R :=
 (slices_Reverse__int_L1 g g 0 (w64 ((a1.length : Int) - 1)) a1 (fun e13 => k0 e13))
noncomputable def slices_Reverse__int [Fuel] : T_slices_Reverse__int := @slices_Reverse__int_ NN
def SS_slices_Reverse__int (g : T_slices_Reverse__int) : Spec A := fun args => match args with | [.arr 3 a1] => fun k => g a1 (fun z0 => k (.tup []) [.arr 3 z0]) | _ => fun _ => none
def sh_slices_Reverse__int_L1 : SSt := mkSh 28 1 [(0, .own 3 0), (2, .int .i64), (3, .int .i64)] [(0, .row 3)]
def LP_slices_Reverse__int_L1 (g : Nat) (n : Nat) : LPT A := fun ps => match ps with | [.d (.int .i64 p1), .d (.int .i64 p2), .d (.sl 3 p3)] => fun K => slices_Reverse__int_L1 g n p1 p2 p3 (fun z0 => K (.exit 0) (mkSt 28 1 [(0, .own 3 0)] [(0, some (.row 3 z0))])) | _ => fun _ => none
noncomputable def code_149 : Code := (Tryz.f149.body).getD .skip
noncomputable def E_slices_Reverse__int (g : Nat) : Env A := mkE [] [] [(1, ⟨[0, 2, 3], [], [0], [], [], []⟩)] [(1, ⟨[0], [], [0], [], [], []⟩)] [(1, pieceOf sh_slices_Reverse__int_L1 (LP_slices_Reverse__int_L1 g g))] [] [] [] [] [0]
theorem ct_slices_Reverse__int [Fuel] : NatTab (E_slices_Reverse__int NN).C := ct_of (P := Tryz.prog) (T := T) .nil (by kernel_rfl)
noncomputable def cb_slices_Reverse__int_L1 : Code := sub [1, 0, 0] code_149
theorem s_slices_Reverse__int_L1 (g : Nat) (n : Nat) : StepOk (E_slices_Reverse__int g) g cb_slices_Reverse__int_L1 sh_slices_Reverse__int_L1 (LP_slices_Reverse__int_L1 g) n := by intro ps; unfold LP_slices_Reverse__int_L1; split; exact .inr fun R K => (by kernel_rfl); exact .inl fun R K => rfl
theorem lf_slices_Reverse__int_L1 [Fuel] : LoopFine (E_slices_Reverse__int NN) NN cb_slices_Reverse__int_L1 := fine_loop sh_slices_Reverse__int_L1 (LP_slices_Reverse__int_L1 NN) (by kernel_rfl) ct_slices_Reverse__int (cuts0 (fun _ => rfl) (by kernel_rfl)) (fun ps R K => by unfold LP_slices_Reverse__int_L1; split <;> (try unfold slices_Reverse__int_L1) <;> rfl) (s_slices_Reverse__int_L1 NN)
theorem sm_slices_Reverse__int (g : Nat) : Same (SS_slices_Reverse__int (@slices_Reverse__int_ g)) (abody (E_slices_Reverse__int g) Tryz.f149 code_149 1 [0] [] g) := by intro args; unfold SS_slices_Reverse__int; split; exact .inr fun R k => (by kernel_rfl); exact .inl fun R k => rfl
theorem ok_slices_Reverse__int [Fuel] : Ok 149 (SS_slices_Reverse__int (@slices_Reverse__int _)) := okF_of std .nil ⟨rfl, rfl, by kernel_rfl, rfl, rfl, rfl⟩ (sm_slices_Reverse__int NN) (cutsL (fun _ => rfl) (.cons lf_slices_Reverse__int_L1 .nil) (by kernel_rfl)) Tryz.func149 (by kernel_rfl) (by kernel_rfl)
abbrev T_net_counting : Type 1 := List G_Deed → Int → {R : Type} → (List Int → Option R) → Option R
structure C_net_counting where
 N : Nat
 slices_Backward__Deed : T_slices_Backward__Deed
 slices_Reverse__int : T_slices_Reverse__int
def net_counting_L6 (g : C_net_counting) : Nat → List G_Deed → Int → List (G_net_own × Bool) → List Int → {R : Type} → (Int → List (G_net_own × Bool) → List Int → Option R) → Option R
 | 0, y0, y1, y2, y3, _, e0 => e0 y1 y2 y3
 | n + 1, l7, v4, v5, v6, _, e0 => (match l7[n]? with | none => none | some x8 => (bif (decide (x8.f_At > v4)) then net_counting_L6 g n l7 v4 v5 v6 e0 else (bif ((mget_net_own_bool (⟨x8.f_Site, x8.f_No⟩ : G_net_own) v5).getD false) then net_counting_L6 g n l7 v4 v5 v6 e0 else (bif (decide ((v6.length + [(n : Int)].length) * 8 ≤ roomBytes')) then (bif (x8.f_Kind == 5) then net_counting_L6 g n l7 v4 (mset_net_own_bool (⟨x8.f_Of, x8.f_Other⟩ : G_net_own) true v5) (v6 ++ [(n : Int)]) e0 else net_counting_L6 g n l7 v4 v5 (v6 ++ [(n : Int)]) e0) else none))))
noncomputable def raw_net_counting (g : C_net_counting) (a1 : List G_Deed) (a2 : Int) {R : Type} (k0 : List Int → Option R) : Option R :=
 (g.slices_Backward__Deed a1 (fun r3 => (bif decide (r3.length < 4611686018427387904) then (net_counting_L6 g r3.length r3 a2 [] [] (fun e9 e10 e11 => (g.slices_Reverse__int e11 (fun r12 => k0 r12)))) else none)))
def dec0_net_counting (p : IV A × List (IV A)) : Option ((List Int)) := match p with | (.arr 3 b1, [.undef, .undef]) => some (b1) | _ => none
def inj0_net_counting (q : (List Int)) : IV A × List (IV A) := (.arr 3 q, [.undef, .undef])
theorem hi0_net_counting (p : IV A × List (IV A)) (q : (List Int)) (h : dec0_net_counting p = some q) : p = inj0_net_counting q := by unfold dec0_net_counting at h; split at h; (cases h; rfl); cases h
noncomputable def net_counting_ (g : C_net_counting) (a1 : List G_Deed) (a2 : Int) {R : Type} (k0 : List Int → Option R) : Option R :=
 (raw_net_counting g a1 a2 (fun z0 => some (inj0_net_counting (z0)))).bind fun p => (decK dec0_net_counting p (fun q => k0 q) none)
noncomputable def I_net_counting [Fuel] : C_net_counting := ⟨NN, @slices_Backward__Deed _, @slices_Reverse__int _⟩
noncomputable def net_counting [Fuel] : T_net_counting := @net_counting_ I_net_counting
def SS_net_counting (g : T_net_counting) : Spec A := fun args => match args with | [.d (.sl 72 a1), .d (.int .i64 a2)] => fun k => g a1 a2 (fun z0 => k (.arr 3 z0) [.undef, .undef]) | _ => fun _ => none
def sh_net_counting_L6 : SSt := mkSh 43 9 [(3, .ptr 0 0), (5, .ptr 2 0), (6, .ptr 3 0)] [(0, .box [.int .i64]), (1, .mp 148 4), (2, .box [.mp 1]), (3, .box [.own 3 5]), (5, .row 3)]
abbrev bw_net_counting_L6 : Bw := ⟨176, 73, 72, 3, 4⟩
def LP_net_counting_L6 (g : C_net_counting) (n : Nat) (l : List (A (bw_net_counting_L6).tE)) : LPT A := fun ps => match ps with | [.d (.int .i64 p1), .mp 148 4 p2, .d (.sl 3 p3)] => fun K => net_counting_L6 g n l p1 p2 p3 (fun z0 z1 z2 => K .normal (mkSt 43 9 [(3, .ptr 0 0), (5, .ptr 2 0), (6, .ptr 3 0)] [(0, some (.box [.d (.int .i64 z0)])), (1, some (.mp 148 4 z1)), (2, some (.box [.mp 1])), (3, some (.box [.own 3 5])), (5, some (.row 3 z2))])) | _ => fun _ => none
noncomputable def code_117 : Code := (Tryz.f117.body).getD .skip
noncomputable def E_net_counting (g : C_net_counting) : Env A := mkE [(148, SS_slices_Backward__Deed g.slices_Backward__Deed), (149, SS_slices_Reverse__int g.slices_Reverse__int)] [(3, [0]), (5, [2]), (6, [3]), (8, [6]), (9, [1]), (11, [4]), (29, [7]), (30, [8])] [(6, ⟨[3, 5, 6], [], [0, 1, 2, 3], [(3, 0, 3, 5)], [], []⟩)] [(6, ⟨[3, 5, 6], [], [0, 1, 2, 3], [], [], []⟩)] [] [] [] [] [(149, 0)] []
noncomputable def CB_net_counting (g : C_net_counting) : Nat → Option (Nat → PieceB A (bw_net_counting_L6).tE) := fun i => List.lookup i [(0, pieceB (bw_net_counting_L6).tE sh_net_counting_L6 (LP_net_counting_L6 g))]
def kp_net_counting : Nat → List Nat := fun i => (List.lookup i [(0, [3, 5, 6])]).getD []
theorem ct_net_counting [Fuel] : NatTab (E_net_counting I_net_counting).C := ct_of (P := Tryz.prog) (T := T) (.cons ok_slices_Backward__Deed (.cons ok_slices_Reverse__int .nil)) (by kernel_rfl)
noncomputable def bwp_net_counting_L6 : BwP := (bwP Tryz.f176.body).get (by kernel_rfl)
theorem bwf_net_counting_L6 : BwFine Tryz.prog T bw_net_counting_L6 := ⟨bwOk_of (fn := Tryz.f176) Tryz.func176 bwp_net_counting_L6 (by kernel_rfl) (by kernel_rfl) (by kernel_rfl) (by kernel_rfl) (by kernel_rfl) (by kernel_rfl) (by kernel_rfl) (by kernel_rfl) (by kernel_rfl), enters_of (fn := Tryz.f176) Tryz.func176 (by kernel_rfl) (by kernel_rfl), by kernel_rfl, by kernel_rfl, fun x => by kernel_rfl⟩
noncomputable def rp_net_counting_L6 : RfP := (rfOf (sub [1, 1, 1, 0] code_117)).get (by kernel_rfl)
theorem z_net_counting_L6 (g : C_net_counting) : BZeroOk (bw_net_counting_L6).tE sh_net_counting_L6 (LP_net_counting_L6 g) := by intro xs ps; unfold LP_net_counting_L6; split; exact .inr fun R K => (by kernel_rfl); exact .inl fun R K => rfl
theorem s_net_counting_L6 (g : C_net_counting) (i : Nat) : BStepOk (E_net_counting g) g.N (kp_net_counting (rp_net_counting_L6).B) rp_net_counting_L6 (bw_net_counting_L6).tE sh_net_counting_L6 (LP_net_counting_L6 g) i := by intro xs ps; unfold LP_net_counting_L6; split; exact .inr fun R K => (by kernel_rfl); exact .inl fun R K => rfl
theorem lf_net_counting_L6 [Fuel] : BOk (E_net_counting I_net_counting) bw_net_counting_L6 (CB_net_counting I_net_counting) kp_net_counting NN rp_net_counting_L6 := fine_back sh_net_counting_L6 (LP_net_counting_L6 I_net_counting) (by kernel_rfl) (cuts0 (fun _ => rfl) (by kernel_rfl)) (cuts0 (fun _ => rfl) (by kernel_rfl)) (z_net_counting_L6 I_net_counting) (s_net_counting_L6 I_net_counting)
theorem sm_net_counting (g : C_net_counting) : Same (SS_net_counting (@raw_net_counting g)) (abodyB (E_net_counting g) bw_net_counting_L6 (CB_net_counting g) kp_net_counting Tryz.f117 code_117 9 [] [.arr 3] g.N) := by intro args; unfold SS_net_counting; split; exact .inr fun R k => (by kernel_rfl); exact .inl fun R k => rfl
theorem wh_net_counting (g : C_net_counting) : Whole (SS_net_counting (@net_counting_ g)) (SS_net_counting (@raw_net_counting g)) := by
 intro args R k res h
 unfold SS_net_counting at h
 split at h
 ·obtain ⟨p, hp, h⟩ := Option.bind_eq_some_iff.1 h
  exact ⟨p, hp, (decK_hc (inj := inj0_net_counting) hi0_net_counting (fun h => (by cases h)) h)⟩
 ·cases h
theorem nx_net_counting (g : C_net_counting) : NatSpec (SS_net_counting (@net_counting_ g)) := by
 intro args R k
 unfold SS_net_counting
 split
 ·unfold net_counting_
  rw [Option.bind_assoc]
  exact congrArg (Option.bind _) (funext fun p => (decK_na (inj := inj0_net_counting) rfl))
 ·rfl
theorem ok_net_counting [Fuel] : Ok 117 (SS_net_counting (@net_counting _)) := okB_of std (.cons ok_slices_Backward__Deed (.cons ok_slices_Reverse__int .nil)) ⟨rfl, rfl, by kernel_rfl, rfl, rfl, rfl⟩ bwf_net_counting_L6 (sm_net_counting I_net_counting) (wh_net_counting I_net_counting) (nx_net_counting I_net_counting) (cutsB (fun _ => rfl) .nil (.cons lf_net_counting_L6 .nil) (by kernel_rfl) (by kernel_rfl)) Tryz.func117 (by kernel_rfl) (by kernel_rfl)
abbrev T_net_key : Type 1 := G_Contact → {R : Type} → (G_Contact → Option R) → Option R
def net_key_ (g : Nat) (a1 : G_Contact) {R : Type} (k0 : G_Contact → Option R) : Option R :=
 k0 (⟨a1.f_At, a1.f_Mode, a1.f_Band, a1.f_Call, 0, 0, [], []⟩ : G_Contact)
noncomputable def net_key [Fuel] : T_net_key := @net_key_ NN
def SS_net_key (g : T_net_key) : Spec A := fun args => match args with | [.agg [.d (.int .i64 a1), .d (.int .i64 a2), .d (.str a3), .d (.str a4), .d (.int .i64 a5), .d (.int .i64 a6), .d (.str a7), .d (.str a8)]] => fun k => g ⟨a1, a2, a3, a4, a5, a6, a7, a8⟩ (fun z0 => k (.agg [.d (.int .i64 z0.f_At), .d (.int .i64 z0.f_Mode), .d (.str z0.f_Band), .d (.str z0.f_Call), .d (.int .i64 z0.f_Sent), .d (.int .i64 z0.f_Heard), .d (.str z0.f_Gave), .d (.str z0.f_Got)]) [.undef]) | _ => fun _ => none
noncomputable def code_118 : Code := (Tryz.f118.body).getD .skip
noncomputable def E_net_key (g : Nat) : Env A := mkE [] [(1, [0]), (2, [1])] [] [] [] [] [] [] [] []
theorem sm_net_key (g : Nat) : Same (SS_net_key (@net_key_ g)) (abody (E_net_key g) Tryz.f118 code_118 2 [] [.asis] g) := by intro args; unfold SS_net_key; split; exact .inr fun R k => (by kernel_rfl); exact .inl fun R k => rfl
theorem ok_net_key [Fuel] : Ok 118 (SS_net_key (@net_key _)) := okF_of std .nil ⟨rfl, rfl, by kernel_rfl, rfl, rfl, rfl⟩ (sm_net_key NN) (cuts0 (fun _ => rfl) (by kernel_rfl)) Tryz.func118 (by kernel_rfl) (by kernel_rfl)
abbrev T_slices_SortFunc__Contact_log_Compare : Type 1 := List G_Contact → {R : Type} → (List G_Contact → Option R) → Option R
noncomputable def slices_SortFunc__Contact_log_Compare [Fuel] : T_slices_SortFunc__Contact_log_Compare := @X_sortf G_Contact (@log_Compare _)
def SS_slices_SortFunc__Contact_log_Compare (g : T_slices_SortFunc__Contact_log_Compare) : Spec A := fun args => match args with | [.arr 50 a1, .fn 69 []] => fun k => g a1 (fun z => k (.tup []) [.arr 50 z, .fn 69 []]) | _ => fun _ => none
theorem h1_slices_SortFunc__Contact_log_Compare [Fuel] (xs : List (A 50)) (R : Type) (k : IV A → List (IV A) → Option R) : SS_slices_SortFunc__Contact_log_Compare (@slices_SortFunc__Contact_log_Compare _) [.arr 50 xs, .fn 69 []] k = X_sortf (α := A 50) (@log_Compare _) xs (fun z => k (.tup []) [.arr 50 z, .fn 69 []]) := by kernel_rfl
theorem h2_slices_SortFunc__Contact_log_Compare [Fuel] (args : List (IV A)) (R : Type) (k : IV A → List (IV A) → Option R) (h : ∀ xs : List (A 50), args ≠ [.arr 50 xs, .fn 69 []]) : SS_slices_SortFunc__Contact_log_Compare (@slices_SortFunc__Contact_log_Compare _) args k = none := by unfold SS_slices_SortFunc__Contact_log_Compare; split; exact absurd rfl (h _); rfl
theorem hc_slices_SortFunc__Contact_log_Compare [Fuel] (x y : A 50) (R : Type) (k : Int → Option R) : callOf T (SS_log_Compare (@log_Compare _)) 50 x y k = @log_Compare _ x y R k := by kernel_rfl
theorem hs_slices_SortFunc__Contact_log_Compare (x : G_Contact) : (enc_e50 x).all scal = true := rfl
theorem ok_slices_SortFunc__Contact_log_Compare [Fuel] : Ok 119 (SS_slices_SortFunc__Contact_log_Compare (@slices_SortFunc__Contact_log_Compare _)) := ⟨sortf_sound (tyOk Tryz.prog) (e := 50) Tryz.sortf119 Tryz.isAgg50 Tryz.sizeOf50 (fun x d hd => List.all_eq_true.1 (hs_slices_SortFunc__Contact_log_Compare x) d hd) hc_slices_SortFunc__Contact_log_Compare okd_log_Compare.fs okd_log_Compare.en h1_slices_SortFunc__Contact_log_Compare h2_slices_SortFunc__Contact_log_Compare, sortf_na (e := 50) h1_slices_SortFunc__Contact_log_Compare h2_slices_SortFunc__Contact_log_Compare, enters_of (fn := Tryz.f119) Tryz.func119 (by kernel_rfl) (by kernel_rfl)⟩
end Go.Am
