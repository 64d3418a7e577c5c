/- The functions of the program as Lean functions, each shown to be what the code computes, part 5. No condition: lemmas for the claim. -/
import Derived.Test.YtdpapgakljjnnaaGreatDoorF0
import Derived.Test.YtdpapgakljjnnaaGreatDoorFSh
import Derived.Test.YtdpapgakljjnnaaGreatDoorF1
import Derived.Test.YtdpapgakljjnnaaGreatDoorF4
set_option linter.unusedVariables false
set_option maxRecDepth 100000
namespace Go.Am
open Go Go.Proofs
abbrev T_kit_IsName : Type 1 := List UInt8 → {R : Type} → (Bool → Option R) → Option R
structure C_kit_IsName where
 N : Nat
 kit_IsKey : T_kit_IsKey
def kit_IsName_ (g : C_kit_IsName) (a1 : List UInt8) {R : Type} (k0 : Bool → Option R) : Option R :=
 (bif (a1 == []) then k0 true else (g.kit_IsKey a1 (fun r2 => k0 r2)))
noncomputable def I_kit_IsName [Fuel] : C_kit_IsName := ⟨NN, @kit_IsKey _⟩
noncomputable def kit_IsName [Fuel] : T_kit_IsName := @kit_IsName_ I_kit_IsName
def SS_kit_IsName (g : T_kit_IsName) : Spec A := fun args => match args with | [.d (.str a1)] => fun k => g a1 (fun z0 => k (.d (.bool z0)) [.undef]) | _ => fun _ => none
noncomputable def code_123 : Code := (Tryz.f123.body).getD .skip
noncomputable def E_kit_IsName (g : C_kit_IsName) : Env A := mkE [(116, SS_kit_IsKey g.kit_IsKey)] [] [] [] [] [] [] [] [] []
theorem sm_kit_IsName (g : C_kit_IsName) : Same (SS_kit_IsName (@kit_IsName_ g)) (abody (E_kit_IsName g) Tryz.f123 code_123 0 [] [.asis] g.N) := by intro args; unfold SS_kit_IsName; split; exact .inr fun R k => (by kernel_rfl); exact .inl fun R k => rfl
theorem ok_kit_IsName [Fuel] : Ok 123 (SS_kit_IsName (@kit_IsName _)) := okF_of std (.cons ok_kit_IsKey .nil) ⟨rfl, rfl, by kernel_rfl, rfl, rfl, rfl⟩ (sm_kit_IsName I_kit_IsName) (cuts0 (fun _ => rfl) (by kernel_rfl)) Tryz.func123 (by kernel_rfl) (by kernel_rfl)
abbrev T_z52z : Type 1 := G_Contact → {R : Type} → (Int → Option R) → Option R
structure C_z52z where
 N : Nat
 z47z : T_z47z
 kit_IsKey : T_kit_IsKey
 z43z : T_z43z
 kit_IsMode : T_kit_IsMode
 call_Is : T_call_Is
 kit_IsName : T_kit_IsName
def z52z_ (g : C_z52z) (a1 : G_Contact) {R : Type} (k0 : Int → Option R) : Option R :=
 (g.z47z a1.f_At (fun r2 => (bif (!r2) then k0 1 else (g.kit_IsMode a1.f_Mode (fun r3 => (bif (!r3) then k0 4 else (g.kit_IsKey a1.f_Band (fun r4 => (bif (!r4) then k0 5 else (g.call_Is a1.f_Call (fun r5 => (bif (!r5) then k0 3 else (g.z43z a1.f_Sent 0 99999 (fun r6 => (bif r6 then k0 1 else (g.z43z a1.f_Heard 0 99999 (fun r7 => (bif r7 then k0 1 else (g.kit_IsName a1.f_Gave (fun r8 => (bif (!r8) then k0 5 else (g.kit_IsName a1.f_Got (fun r9 => (bif (!r9) then k0 5 else k0 0))))))))))))))))))))))))
noncomputable def I_z52z [Fuel] : C_z52z := ⟨NN, @z47z _, @kit_IsKey _, @z43z _, @kit_IsMode _, @call_Is _, @kit_IsName _⟩
noncomputable def z52z [Fuel] : T_z52z := @z52z_ I_z52z
def SS_z52z (g : T_z52z) : Spec A := fun args => match args with | [.agg [.d (.int .i64 a1), .d (.int .i64 a2), .d (.str a3), .d (.str a4), .d (.int .i64 a5), .d (.int .i64 a6), .d (.str a7), .d (.str a8)]] => fun k => g ⟨a1, a2, a3, a4, a5, a6, a7, a8⟩ (fun z0 => k (.d (.int .i64 z0)) [.undef]) | _ => fun _ => none
noncomputable def code_75 : Code := (Tryz.f75.body).getD .skip
noncomputable def E_z52z (g : C_z52z) : Env A := mkE [(94, SS_z47z g.z47z), (116, SS_kit_IsKey g.kit_IsKey), (117, SS_z43z g.z43z), (121, SS_kit_IsMode g.kit_IsMode), (122, SS_call_Is g.call_Is), (123, SS_kit_IsName g.kit_IsName)] [(1, [0])] [] [] [] [] [] [] [] []
theorem sm_z52z (g : C_z52z) : Same (SS_z52z (@z52z_ g)) (abody (E_z52z g) Tryz.f75 code_75 1 [] [.asis] g.N) := by intro args; unfold SS_z52z; split; exact .inr fun R k => (by kernel_rfl); exact .inl fun R k => rfl
theorem ok_z52z [Fuel] : Ok 75 (SS_z52z (@z52z _)) := okF_of std (.cons ok_z47z (.cons ok_kit_IsKey (.cons ok_z43z (.cons ok_kit_IsMode (.cons ok_call_Is (.cons ok_kit_IsName .nil)))))) ⟨rfl, rfl, by kernel_rfl, rfl, rfl, rfl⟩ (sm_z52z I_z52z) (cuts0 (fun _ => rfl) (by kernel_rfl)) Tryz.func75 (by kernel_rfl) (by kernel_rfl)
abbrev T_z66z : Type 1 := G_Deed → {R : Type} → (Int → Option R) → Option R
structure C_z66z where
 N : Nat
 z52z : T_z52z
def z66z_ (g : C_z66z) (a1 : G_Deed) {R : Type} (k0 : Int → Option R) : Option R :=
 (g.z52z a1.f_Contact (fun r2 => (bif (r2 != 0) then k0 r2 else (bif (decide (a1.f_Contact.f_At > a1.f_At)) then k0 1 else k0 0))))
noncomputable def I_z66z [Fuel] : C_z66z := ⟨NN, @z52z _⟩
noncomputable def z66z [Fuel] : T_z66z := @z66z_ I_z66z
def SS_z66z (g : T_z66z) : Spec A := fun args => match args with | [.agg [.d (.str a1), .d (.int .i64 a2), .d (.int .i64 a3), .d (.int .i64 a4), .d (.int .i64 a5), .d (.int .i64 a6), .d (.str a7), .d (.str a8), .d (.int .i64 a9), .d (.int .i64 a10), .d (.str a11), .d (.str a12), .d (.str a13), .d (.str a14), .d (.int .i64 a15)]] => fun k => g ⟨a1, a2, a3, a4, ⟨a5, a6, a7, a8, a9, a10, a11, a12⟩, a13, a14, a15⟩ (fun z0 => k (.d (.int .i64 z0)) [.undef]) | _ => fun _ => none
noncomputable def code_175 : Code := (Tryz.f175.body).getD .skip
noncomputable def E_z66z (g : C_z66z) : Env A := mkE [(75, SS_z52z g.z52z)] [(1, [0])] [] [] [] [] [] [] [] []
theorem sm_z66z (g : C_z66z) : Same (SS_z66z (@z66z_ g)) (abody (E_z66z g) Tryz.f175 code_175 1 [] [.asis] g.N) := by intro args; unfold SS_z66z; split; exact .inr fun R k => (by kernel_rfl); exact .inl fun R k => rfl
theorem ok_z66z [Fuel] : Ok 175 (SS_z66z (@z66z _)) := okF_of std (.cons ok_z52z .nil) ⟨rfl, rfl, by kernel_rfl, rfl, rfl, rfl⟩ (sm_z66z I_z66z) (cuts0 (fun _ => rfl) (by kernel_rfl)) Tryz.func175 (by kernel_rfl) (by kernel_rfl)
abbrev T_z41z : Type 1 := G_Deed → {R : Type} → (Int → Option R) → Option R
structure C_z41z where
 N : Nat
 kit_IsKey : T_kit_IsKey
 z43z : T_z43z
 z66z : T_z66z
def z41z_ (g : C_z41z) (a1 : G_Deed) {R : Type} (k0 : Int → Option R) : Option R :=
 (bif (a1.f_Kind == 1) then (g.z66z a1 (fun r2 => k0 r2)) else (bif (a1.f_Kind == 2) then (g.kit_IsKey a1.f_Band (fun r3 => (bif (!r3) then k0 5 else k0 0))) else (bif (a1.f_Kind == 5) then (g.kit_IsKey a1.f_Of (fun r4 => (bif (!r4) then k0 5 else (g.z43z a1.f_Other 1 1000000 (fun r5 => (bif r5 then k0 1 else k0 0)))))) else (g.z43z a1.f_Contact.f_Sent 1 99999 (fun r6 => (bif r6 then k0 1 else k0 0))))))
noncomputable def I_z41z [Fuel] : C_z41z := ⟨NN, @kit_IsKey _, @z43z _, @z66z _⟩
noncomputable def z41z [Fuel] : T_z41z := @z41z_ I_z41z
def SS_z41z (g : T_z41z) : Spec A := fun args => match args with | [.agg [.d (.str a1), .d (.int .i64 a2), .d (.int .i64 a3), .d (.int .i64 a4), .d (.int .i64 a5), .d (.int .i64 a6), .d (.str a7), .d (.str a8), .d (.int .i64 a9), .d (.int .i64 a10), .d (.str a11), .d (.str a12), .d (.str a13), .d (.str a14), .d (.int .i64 a15)]] => fun k => g ⟨a1, a2, a3, a4, ⟨a5, a6, a7, a8, a9, a10, a11, a12⟩, a13, a14, a15⟩ (fun z0 => k (.d (.int .i64 z0)) [.undef]) | _ => fun _ => none
noncomputable def code_118 : Code := (Tryz.f118.body).getD .skip
noncomputable def E_z41z (g : C_z41z) : Env A := mkE [(116, SS_kit_IsKey g.kit_IsKey), (117, SS_z43z g.z43z), (175, SS_z66z g.z66z)] [(1, [0])] [] [] [] [] [] [] [] []
theorem sm_z41z (g : C_z41z) : Same (SS_z41z (@z41z_ g)) (abody (E_z41z g) Tryz.f118 code_118 1 [] [.asis] g.N) := by intro args; unfold SS_z41z; split; exact .inr fun R k => (by kernel_rfl); exact .inl fun R k => rfl
theorem ok_z41z [Fuel] : Ok 118 (SS_z41z (@z41z _)) := okF_of std (.cons ok_kit_IsKey (.cons ok_z43z (.cons ok_z66z .nil))) ⟨rfl, rfl, by kernel_rfl, rfl, rfl, rfl⟩ (sm_z41z I_z41z) (cuts0 (fun _ => rfl) (by kernel_rfl)) Tryz.func118 (by kernel_rfl) (by kernel_rfl)
abbrev T_net_idle : Type 1 := G_Deed → {R : Type} → (Bool → Option R) → Option R
def net_idle_ (g : Nat) (a1 : G_Deed) {R : Type} (k0 : Bool → Option R) : Option R :=
 (bif (a1.f_Kind == 3) then (bif (a1.f_Kind == 1) then (bif (a1.f_Kind == 2) then (bif (a1.f_Kind == 5) then k0 true else (bif (a1.f_Of == []) then k0 (a1.f_Other == 0) else k0 false)) else (bif (a1.f_Band == []) then (bif (a1.f_Kind == 5) then k0 true else (bif (a1.f_Of == []) then k0 (a1.f_Other == 0) else k0 false)) else k0 false)) else (bif (eq_G_Contact a1.f_Contact (⟨0, 0, [], [], a1.f_Contact.f_Sent, 0, [], []⟩ : G_Contact)) then (bif (a1.f_Kind == 2) then (bif (a1.f_Kind == 5) then k0 true else (bif (a1.f_Of == []) then k0 (a1.f_Other == 0) else k0 false)) else (bif (a1.f_Band == []) then (bif (a1.f_Kind == 5) then k0 true else (bif (a1.f_Of == []) then k0 (a1.f_Other == 0) else k0 false)) else k0 false)) else k0 false)) else (bif (a1.f_Kind == 4) then (bif (a1.f_Kind == 1) then (bif (a1.f_Kind == 2) then (bif (a1.f_Kind == 5) then k0 true else (bif (a1.f_Of == []) then k0 (a1.f_Other == 0) else k0 false)) else (bif (a1.f_Band == []) then (bif (a1.f_Kind == 5) then k0 true else (bif (a1.f_Of == []) then k0 (a1.f_Other == 0) else k0 false)) else k0 false)) else (bif (eq_G_Contact a1.f_Contact (⟨0, 0, [], [], a1.f_Contact.f_Sent, 0, [], []⟩ : G_Contact)) then (bif (a1.f_Kind == 2) then (bif (a1.f_Kind == 5) then k0 true else (bif (a1.f_Of == []) then k0 (a1.f_Other == 0) else k0 false)) else (bif (a1.f_Band == []) then (bif (a1.f_Kind == 5) then k0 true else (bif (a1.f_Of == []) then k0 (a1.f_Other == 0) else k0 false)) else k0 false)) else k0 false)) else (bif (a1.f_Kind == 1) then (bif (a1.f_Kind == 2) then (bif (a1.f_Kind == 5) then k0 true else (bif (a1.f_Of == []) then k0 (a1.f_Other == 0) else k0 false)) else (bif (a1.f_Band == []) then (bif (a1.f_Kind == 5) then k0 true else (bif (a1.f_Of == []) then k0 (a1.f_Other == 0) else k0 false)) else k0 false)) else (bif (eq_G_Contact a1.f_Contact (⟨0, 0, [], [], 0, 0, [], []⟩ : G_Contact)) then (bif (a1.f_Kind == 2) then (bif (a1.f_Kind == 5) then k0 true else (bif (a1.f_Of == []) then k0 (a1.f_Other == 0) else k0 false)) else (bif (a1.f_Band == []) then (bif (a1.f_Kind == 5) then k0 true else (bif (a1.f_Of == []) then k0 (a1.f_Other == 0) else k0 false)) else k0 false)) else k0 false))))
noncomputable def net_idle [Fuel] : T_net_idle := @net_idle_ NN
def SS_net_idle (g : T_net_idle) : Spec A := fun args => match args with | [.agg [.d (.str a1), .d (.int .i64 a2), .d (.int .i64 a3), .d (.int .i64 a4), .d (.int .i64 a5), .d (.int .i64 a6), .d (.str a7), .d (.str a8), .d (.int .i64 a9), .d (.int .i64 a10), .d (.str a11), .d (.str a12), .d (.str a13), .d (.str a14), .d (.int .i64 a15)]] => fun k => g ⟨a1, a2, a3, a4, ⟨a5, a6, a7, a8, a9, a10, a11, a12⟩, a13, a14, a15⟩ (fun z0 => k (.d (.bool z0)) [.undef]) | _ => fun _ => none
noncomputable def code_119 : Code := (Tryz.f119.body).getD .skip
noncomputable def E_net_idle (g : Nat) : Env A := mkE [] [(1, [0]), (5, [1])] [] [] [] [] [] [] [] []
theorem sm_net_idle (g : Nat) : Same (SS_net_idle (@net_idle_ g)) (abody (E_net_idle g) Tryz.f119 code_119 2 [] [.asis] g) := by intro args; unfold SS_net_idle; split; exact .inr fun R k => (by kernel_rfl); exact .inl fun R k => rfl
theorem ok_net_idle [Fuel] : Ok 119 (SS_net_idle (@net_idle _)) := okF_of std .nil ⟨rfl, rfl, by kernel_rfl, rfl, rfl, rfl⟩ (sm_net_idle NN) (cuts0 (fun _ => rfl) (by kernel_rfl)) Tryz.func119 (by kernel_rfl) (by kernel_rfl)
abbrev T_net_formed : Type 1 := G_Deed → {R : Type} → (Int → Option R) → Option R
structure C_net_formed where
 N : Nat
 z47z : T_z47z
 kit_IsKey : T_kit_IsKey
 z43z : T_z43z
 z41z : T_z41z
 net_idle : T_net_idle
def net_formed_ (g : C_net_formed) (a1 : G_Deed) {R : Type} (k0 : Int → Option R) : Option R :=
 (g.kit_IsKey a1.f_Site (fun r2 => (bif (!r2) then k0 5 else (g.z43z a1.f_No 1 1000000 (fun r3 => (bif r3 then k0 1 else (g.z47z a1.f_At (fun r4 => (bif (!r4) then k0 1 else (g.z43z a1.f_Kind 1 5 (fun r5 => (bif r5 then k0 4 else (g.z41z a1 (fun r6 => (bif (r6 != 0) then k0 r6 else (g.net_idle a1 (fun r7 => (bif (!r7) then k0 3 else k0 0))))))))))))))))))
noncomputable def I_net_formed [Fuel] : C_net_formed := ⟨NN, @z47z _, @kit_IsKey _, @z43z _, @z41z _, @net_idle _⟩
noncomputable def net_formed [Fuel] : T_net_formed := @net_formed_ I_net_formed
def SS_net_formed (g : T_net_formed) : Spec A := fun args => match args with | [.agg [.d (.str a1), .d (.int .i64 a2), .d (.int .i64 a3), .d (.int .i64 a4), .d (.int .i64 a5), .d (.int .i64 a6), .d (.str a7), .d (.str a8), .d (.int .i64 a9), .d (.int .i64 a10), .d (.str a11), .d (.str a12), .d (.str a13), .d (.str a14), .d (.int .i64 a15)]] => fun k => g ⟨a1, a2, a3, a4, ⟨a5, a6, a7, a8, a9, a10, a11, a12⟩, a13, a14, a15⟩ (fun z0 => k (.d (.int .i64 z0)) [.undef]) | _ => fun _ => none
noncomputable def code_70 : Code := (Tryz.f70.body).getD .skip
noncomputable def E_net_formed (g : C_net_formed) : Env A := mkE [(94, SS_z47z g.z47z), (116, SS_kit_IsKey g.kit_IsKey), (117, SS_z43z g.z43z), (118, SS_z41z g.z41z), (119, SS_net_idle g.net_idle)] [(1, [0])] [] [] [] [] [] [] [] []
theorem sm_net_formed (g : C_net_formed) : Same (SS_net_formed (@net_formed_ g)) (abody (E_net_formed g) Tryz.f70 code_70 1 [] [.asis] g.N) := by intro args; unfold SS_net_formed; split; exact .inr fun R k => (by kernel_rfl); exact .inl fun R k => rfl
theorem ok_net_formed [Fuel] : Ok 70 (SS_net_formed (@net_formed _)) := okF_of std (.cons ok_z47z (.cons ok_kit_IsKey (.cons ok_z43z (.cons ok_z41z (.cons ok_net_idle .nil))))) ⟨rfl, rfl, by kernel_rfl, rfl, rfl, rfl⟩ (sm_net_formed I_net_formed) (cuts0 (fun _ => rfl) (by kernel_rfl)) Tryz.func70 (by kernel_rfl) (by kernel_rfl)
abbrev T_z57z : Type 1 := Int → {R : Type} → (Bool → Option R) → Option R
def z57z_ (g : Nat) (a1 : Int) {R : Type} (k0 : Bool → Option R) : Option R :=
 k0 (a1 != a1)
noncomputable def z57z [Fuel] : T_z57z := @z57z_ NN
def SS_z57z (g : T_z57z) : Spec A := fun args => match args with | [.d (.int .i64 a1)] => fun k => g a1 (fun z0 => k (.d (.bool z0)) [.undef]) | _ => fun _ => none
noncomputable def code_171 : Code := (Tryz.f171.body).getD .skip
noncomputable def E_z57z (g : Nat) : Env A := mkE [] [] [] [] [] [] [] [] [] []
theorem sm_z57z (g : Nat) : Same (SS_z57z (@z57z_ g)) (abody (E_z57z g) Tryz.f171 code_171 0 [] [.asis] g) := by intro args; unfold SS_z57z; split; exact .inr fun R k => (by kernel_rfl); exact .inl fun R k => rfl
theorem ok_z57z [Fuel] : Ok 171 (SS_z57z (@z57z _)) := okF_of std .nil ⟨rfl, rfl, by kernel_rfl, rfl, rfl, rfl⟩ (sm_z57z NN) (cuts0 (fun _ => rfl) (by kernel_rfl)) Tryz.func171 (by kernel_rfl) (by kernel_rfl)
noncomputable def Ed_z57z (g : Nat) : Env A := mkED [] [] [] [] [] [] [] [] [] []
theorem smd_z57z (g : Nat) : Same (SS_z57z (@z57z_ g)) (abody (Ed_z57z g) Tryz.f171 code_171 0 [] [.asis] g) := by intro args; unfold SS_z57z; split; exact .inr fun R k => (by kernel_rfl); exact .inl fun R k => rfl
theorem okd_z57z [Fuel] : OkD 171 (SS_z57z (@z57z _)) := okF_of stdD .nil ⟨rfl, rfl, by kernel_rfl, rfl, rfl, rfl⟩ (smd_z57z NN) (cuts0 (fun _ => rfl) (by kernel_rfl)) Tryz.func171 (by kernel_rfl) (by kernel_rfl)
abbrev T_z31z : Type 1 := Int → Int → {R : Type} → (Int → Option R) → Option R
structure C_z31z where
 N : Nat
 z57z : T_z57z
def z31z_ (g : C_z31z) (a1 a2 : Int) {R : Type} (k0 : Int → Option R) : Option R :=
 (g.z57z a1 (fun r3 => (g.z57z a2 (fun r4 => (bif r3 then (bif r4 then k0 0 else k0 (-1)) else (bif r4 then k0 1 else (bif (decide (a1 < a2)) then k0 (-1) else (bif (decide (a1 > a2)) then k0 1 else k0 0))))))))
noncomputable def I_z31z [Fuel] : C_z31z := ⟨NN, @z57z _⟩
noncomputable def z31z [Fuel] : T_z31z := @z31z_ I_z31z
def SS_z31z (g : T_z31z) : Spec A := fun args => match args with | [.d (.int .i64 a1), .d (.int .i64 a2)] => fun k => g a1 a2 (fun z0 => k (.d (.int .i64 z0)) [.undef, .undef]) | _ => fun _ => none
noncomputable def code_113 : Code := (Tryz.f113.body).getD .skip
noncomputable def E_z31z (g : C_z31z) : Env A := mkE [(171, SS_z57z g.z57z)] [] [] [] [] [] [] [] [] []
theorem sm_z31z (g : C_z31z) : Same (SS_z31z (@z31z_ g)) (abody (E_z31z g) Tryz.f113 code_113 0 [] [.asis] g.N) := by intro args; unfold SS_z31z; split; exact .inr fun R k => (by kernel_rfl); exact .inl fun R k => rfl
theorem ok_z31z [Fuel] : Ok 113 (SS_z31z (@z31z _)) := okF_of std (.cons ok_z57z .nil) ⟨rfl, rfl, by kernel_rfl, rfl, rfl, rfl⟩ (sm_z31z I_z31z) (cuts0 (fun _ => rfl) (by kernel_rfl)) Tryz.func113 (by kernel_rfl) (by kernel_rfl)
noncomputable def Ed_z31z (g : C_z31z) : Env A := mkED [(171, SS_z57z g.z57z)] [] [] [] [] [] [] [] [] []
theorem smd_z31z (g : C_z31z) : Same (SS_z31z (@z31z_ g)) (abody (Ed_z31z g) Tryz.f113 code_113 0 [] [.asis] g.N) := by intro args; unfold SS_z31z; split; exact .inr fun R k => (by kernel_rfl); exact .inl fun R k => rfl
theorem okd_z31z [Fuel] : OkD 113 (SS_z31z (@z31z _)) := okF_of stdD (.cons okd_z57z .nil) ⟨rfl, rfl, by kernel_rfl, rfl, rfl, rfl⟩ (smd_z31z I_z31z) (cuts0 (fun _ => rfl) (by kernel_rfl)) Tryz.func113 (by kernel_rfl) (by kernel_rfl)
abbrev T_z29z : Type 1 := List Int → {R : Type} → (Int → Option R) → Option R
def z29z_L3 (g : Nat) : Nat → Int → List Int → Int → Int → {R : Type} → (Int → Int → Option R) → (Int → Option R) → Option R
 | 0, _, _, _, _, _, _, _ => none
 | n + 1, v2, v3, v4, v5, _, e0, e1 => (bif (decide (v5 < v4)) then (get_ v3 v5 fun x7 => (bif (x7 != v2) then e0 x7 v2 else z29z_L3 g n v2 v3 v4 (w64 (v5 + 1)) e0 e1)) else e1 v2)
def z29z_ (g : Nat) (a1 : List Int) {R : Type} (k0 : Int → Option R) : Option R :=
 (z29z_L3 g g 0 a1 (a1.length : Int) 0 (fun e8 e9 => k0 e8) (fun e10 => k0 e10))
noncomputable def z29z [Fuel] : T_z29z := @z29z_ NN
def SS_z29z (g : T_z29z) : Spec A := fun args => match args with | [.d (.sl 3 a1)] => fun k => g a1 (fun z0 => k (.d (.int .i64 z0)) [.undef]) | _ => fun _ => none
def sh_z29z_L3 : SSt := mkSh 18 0 [(3, .int .i64), (6, .sl 3), (7, .int .i64), (8, .int .i64)] []
def LP_z29z_L3 (g : Nat) (n : Nat) : LPT A := fun ps => match ps with | [.d (.int .i64 p1), .d (.sl 3 p2), .d (.int .i64 p3), .d (.int .i64 p4)] => fun K => z29z_L3 g n p1 p2 p3 p4 (fun z0 z1 => K .ret (mkSt 18 0 [(2, .d (.int .i64 z0)), (3, .d (.int .i64 z1))] [])) (fun z0 => K (.exit 0) (mkSt 18 0 [(3, .d (.int .i64 z0))] [])) | _ => fun _ => none
noncomputable def code_112 : Code := (Tryz.f112.body).getD .skip
noncomputable def E_z29z (g : Nat) : Env A := mkE [] [] [(3, ⟨[3, 6, 7, 8], [], [], [], [], [], []⟩)] [(3, ⟨[2, 3], [], [], [], [], [], []⟩)] [(3, pieceOf sh_z29z_L3 (LP_z29z_L3 g g))] [] [] [] [] []
theorem ct_z29z [Fuel] : NatTab (E_z29z NN).C := ct_of (P := Tryz.prog) (T := T) .nil (by kernel_rfl)
noncomputable def cb_z29z_L3 : Code := sub [1, 1, 0, 1, 0, 0] code_112
theorem s_z29z_L3 (g : Nat) (n : Nat) : StepOk (E_z29z g) g cb_z29z_L3 sh_z29z_L3 (LP_z29z_L3 g) n := by intro ps; unfold LP_z29z_L3; split; exact .inr fun R K => (by kernel_rfl); exact .inl fun R K => rfl
theorem lf_z29z_L3 [Fuel] : LoopFine (E_z29z NN) NN cb_z29z_L3 := fine_loop sh_z29z_L3 (LP_z29z_L3 NN) (by kernel_rfl) ct_z29z (cuts0 (fun _ => rfl) (by kernel_rfl)) (fun ps R K => by unfold LP_z29z_L3; split <;> (try unfold z29z_L3) <;> rfl) (s_z29z_L3 NN)
theorem sm_z29z (g : Nat) : Same (SS_z29z (@z29z_ g)) (abody (E_z29z g) Tryz.f112 code_112 0 [] [.asis] g) := by intro args; unfold SS_z29z; split; exact .inr fun R k => (by kernel_rfl); exact .inl fun R k => rfl
theorem ok_z29z [Fuel] : Ok 112 (SS_z29z (@z29z _)) := okF_of std .nil ⟨rfl, rfl, by kernel_rfl, rfl, rfl, rfl⟩ (sm_z29z NN) (cutsL (fun _ => rfl) (.cons lf_z29z_L3 .nil) (by kernel_rfl)) Tryz.func112 (by kernel_rfl) (by kernel_rfl)
noncomputable def Ed_z29z (g : Nat) : Env A := mkED [] [] [(3, ⟨[3, 6, 7, 8], [], [], [], [], [], []⟩)] [(3, ⟨[2, 3], [], [], [], [], [], []⟩)] [(3, pieceOf sh_z29z_L3 (LP_z29z_L3 g g))] [] [] [] [] []
theorem ctd_z29z [Fuel] : NatTab (Ed_z29z NN).C := ct_of (P := Tryz.prog) (T := TD) .nil (by kernel_rfl)
theorem sd_z29z_L3 (g : Nat) (n : Nat) : StepOk (Ed_z29z g) g cb_z29z_L3 sh_z29z_L3 (LP_z29z_L3 g) n := by intro ps; unfold LP_z29z_L3; split; exact .inr fun R K => (by kernel_rfl); exact .inl fun R K => rfl
theorem lfd_z29z_L3 [Fuel] : LoopFine (Ed_z29z NN) NN cb_z29z_L3 := fine_loop sh_z29z_L3 (LP_z29z_L3 NN) (by kernel_rfl) ctd_z29z (cuts0 (fun _ => rfl) (by kernel_rfl)) (fun ps R K => by unfold LP_z29z_L3; split <;> (try unfold z29z_L3) <;> rfl) (sd_z29z_L3 NN)
theorem smd_z29z (g : Nat) : Same (SS_z29z (@z29z_ g)) (abody (Ed_z29z g) Tryz.f112 code_112 0 [] [.asis] g) := by intro args; unfold SS_z29z; split; exact .inr fun R k => (by kernel_rfl); exact .inl fun R k => rfl
theorem okd_z29z [Fuel] : OkD 112 (SS_z29z (@z29z _)) := okF_of stdD .nil ⟨rfl, rfl, by kernel_rfl, rfl, rfl, rfl⟩ (smd_z29z NN) (cutsL (fun _ => rfl) (.cons lfd_z29z_L3 .nil) (by kernel_rfl)) Tryz.func112 (by kernel_rfl) (by kernel_rfl)
abbrev T_z24z : Type 1 := G_Deed → G_Deed → {R : Type} → (Int → Option R) → Option R
structure C_z24z where
 N : Nat
 strings_Compare : T_strings_Compare
 z29z : T_z29z
 z31z : T_z31z
def z24z_ (g : C_z24z) (a1 a2 : G_Deed) {R : Type} (k0 : Int → Option R) : Option R :=
 (g.z31z a1.f_At a2.f_At (fun r3 => (g.strings_Compare a1.f_Site a2.f_Site (fun r4 => (g.z31z a1.f_No a2.f_No (fun r5 => (g.z29z [r3, r4, r5] (fun r6 => k0 r6))))))))
noncomputable def I_z24z [Fuel] : C_z24z := ⟨NN, @strings_Compare _, @z29z _, @z31z _⟩
noncomputable def z24z [Fuel] : T_z24z := @z24z_ I_z24z
def SS_z24z (g : T_z24z) : Spec A := fun args => match args with | [.agg [.d (.str a1), .d (.int .i64 a2), .d (.int .i64 a3), .d (.int .i64 a4), .d (.int .i64 a5), .d (.int .i64 a6), .d (.str a7), .d (.str a8), .d (.int .i64 a9), .d (.int .i64 a10), .d (.str a11), .d (.str a12), .d (.str a13), .d (.str a14), .d (.int .i64 a15)], .agg [.d (.str a16), .d (.int .i64 a17), .d (.int .i64 a18), .d (.int .i64 a19), .d (.int .i64 a20), .d (.int .i64 a21), .d (.str a22), .d (.str a23), .d (.int .i64 a24), .d (.int .i64 a25), .d (.str a26), .d (.str a27), .d (.str a28), .d (.str a29), .d (.int .i64 a30)]] => fun k => g ⟨a1, a2, a3, a4, ⟨a5, a6, a7, a8, a9, a10, a11, a12⟩, a13, a14, a15⟩ ⟨a16, a17, a18, a19, ⟨a20, a21, a22, a23, a24, a25, a26, a27⟩, a28, a29, a30⟩ (fun z0 => k (.d (.int .i64 z0)) [.undef, .undef]) | _ => fun _ => none
noncomputable def code_63 : Code := (Tryz.f63.body).getD .skip
noncomputable def E_z24z (g : C_z24z) : Env A := mkE [(108, SS_strings_Compare g.strings_Compare), (112, SS_z29z g.z29z), (113, SS_z31z g.z31z)] [(2, [0]), (3, [1]), (20, [2])] [] [] [] [] [] [] [] []
theorem sm_z24z (g : C_z24z) : Same (SS_z24z (@z24z_ g)) (abody (E_z24z g) Tryz.f63 code_63 3 [] [.asis] g.N) := by intro args; unfold SS_z24z; split; exact .inr fun R k => (by kernel_rfl); exact .inl fun R k => rfl
theorem ok_z24z [Fuel] : Ok 63 (SS_z24z (@z24z _)) := okF_of std (.cons ok_strings_Compare (.cons ok_z29z (.cons ok_z31z .nil))) ⟨rfl, rfl, by kernel_rfl, rfl, rfl, rfl⟩ (sm_z24z I_z24z) (cuts0 (fun _ => rfl) (by kernel_rfl)) Tryz.func63 (by kernel_rfl) (by kernel_rfl)
noncomputable def Ed_z24z (g : C_z24z) : Env A := mkED [(108, SS_strings_Compare g.strings_Compare), (112, SS_z29z g.z29z), (113, SS_z31z g.z31z)] [(2, [0]), (3, [1]), (20, [2])] [] [] [] [] [] [] [] []
theorem smd_z24z (g : C_z24z) : Same (SS_z24z (@z24z_ g)) (abody (Ed_z24z g) Tryz.f63 code_63 3 [] [.asis] g.N) := by intro args; unfold SS_z24z; split; exact .inr fun R k => (by kernel_rfl); exact .inl fun R k => rfl
theorem okd_z24z [Fuel] : OkD 63 (SS_z24z (@z24z _)) := okF_of stdD (.cons okd_strings_Compare (.cons okd_z29z (.cons okd_z31z .nil))) ⟨rfl, rfl, by kernel_rfl, rfl, rfl, rfl⟩ (smd_z24z I_z24z) (cuts0 (fun _ => rfl) (by kernel_rfl)) Tryz.func63 (by kernel_rfl) (by kernel_rfl)
abbrev T_z7z : Type 1 := List G_Deed → {R : Type} → (Int → Option R) → Option R
structure C_z7z where
 N : Nat
 z24z : T_z24z
 net_formed : T_net_formed
def z7z_L4 (g : C_z7z) : Nat → List G_Deed → List G_Deed → Int → Int → {R : Type} → (List G_Deed → Int → Option R) → (List G_Deed → Option R) → Option R
 | 0, _, _, _, _, _, _, _ => none
 | n + 1, v2, v3, v4, v5, _, e0, e1 => (bif (decide (v5 < v4)) then (get_ v3 v5 fun x10 => (g.net_formed x10 (fun r11 => (bif (r11 != 0) then e0 v2 r11 else (bif (decide (v5 > 0)) then (get_ v2 (w64 (v5 - 1)) fun x12 => (g.z24z x12 x10 (fun r13 => (bif (decide (r13 ≥ 0)) then e0 v2 7 else z7z_L4 g n v2 v3 v4 (w64 (v5 + 1)) e0 e1)))) else z7z_L4 g n v2 v3 v4 (w64 (v5 + 1)) e0 e1))))) else e1 v2)
def z7z_L14 (g : C_z7z) : Nat → List G_Deed → Int → Int → List (G_net_own × Bool) → {R : Type} → (Int → Option R) → Option R → Option R
 | 0, _, _, _, _, _, _, _ => none
 | n + 1, v17, v18, v19, v20, _, e0, e1 => (bif (decide (v19 < v18)) then (get_ v17 v19 fun x22 => (bif ((mget_net_own_bool (⟨x22.f_Site, x22.f_No⟩ : G_net_own) v20).getD false) then e0 6 else z7z_L14 g n v17 v18 (w64 (v19 + 1)) (mset_net_own_bool (⟨x22.f_Site, x22.f_No⟩ : G_net_own) true v20) e0 e1)) else e1)
def z7z_ (g : C_z7z) (a1 : List G_Deed) {R : Type} (k0 : Int → Option R) : Option R :=
 (bif (decide ((a1.length : Int) > 2000)) then k0 2 else (z7z_L4 g g.N a1 a1 (a1.length : Int) 0 (fun e14 e15 => k0 e15) (fun e16 => (z7z_L14 g g.N e16 (e16.length : Int) 0 [] (fun e23 => k0 e23) (k0 0)))))
noncomputable def I_z7z [Fuel] : C_z7z := ⟨NN, @z24z _, @net_formed _⟩
noncomputable def z7z [Fuel] : T_z7z := @z7z_ I_z7z
def SS_z7z (g : T_z7z) : Spec A := fun args => match args with | [.d (.sl 35 a1)] => fun k => g a1 (fun z0 => k (.d (.int .i64 z0)) [.undef]) | _ => fun _ => none
def sh_z7z_L4 : SSt := mkSh 56 4 [(0, .sl 35), (13, .sl 35), (14, .int .i64), (15, .int .i64)] []
def LP_z7z_L4 (g : C_z7z) (n : Nat) : LPT A := fun ps => match ps with | [.d (.sl 35 p1), .d (.sl 35 p2), .d (.int .i64 p3), .d (.int .i64 p4)] => fun K => z7z_L4 g n p1 p2 p3 p4 (fun z0 z1 => K .ret (mkSt 56 4 [(0, .d (.sl 35 z0)), (2, .d (.int .i64 z1))] [])) (fun z0 => K (.exit 0) (mkSt 56 4 [(0, .d (.sl 35 z0))] [])) | _ => fun _ => none
def sh_z7z_L14 : SSt := mkSh 56 4 [(6, .mp 1), (39, .sl 35), (40, .int .i64), (41, .int .i64)] [(1, .mp 102 4)]
def LP_z7z_L14 (g : C_z7z) (n : Nat) : LPT A := fun ps => match ps with | [.d (.sl 35 p1), .d (.int .i64 p2), .d (.int .i64 p3), .mp 102 4 p4] => fun K => z7z_L14 g n p1 p2 p3 p4 (fun z0 => K .ret (mkSt 56 4 [(2, .d (.int .i64 z0))] [])) (K (.exit 2) (mkSt 56 4 [] [])) | _ => fun _ => none
noncomputable def code_20 : Code := (Tryz.f20.body).getD .skip
noncomputable def E_z7z (g : C_z7z) : Env A := mkE [(63, SS_z24z g.z24z), (70, SS_net_formed g.net_formed)] [(4, [0]), (8, [2]), (9, [3]), (38, [1])] [(4, ⟨[0, 13, 14, 15], [], [], [], [], [], []⟩), (14, ⟨[6, 39, 40, 41], [], [1], [], [], [], []⟩)] [(4, ⟨[0, 2], [], [], [], [], [], []⟩), (14, ⟨[2], [], [], [], [], [], []⟩)] [(4, pieceOf sh_z7z_L4 (LP_z7z_L4 g g.N)), (14, pieceOf sh_z7z_L14 (LP_z7z_L14 g g.N))] [] [] [] [] []
theorem ct_z7z [Fuel] : NatTab (E_z7z I_z7z).C := ct_of (P := Tryz.prog) (T := T) (.cons ok_z24z (.cons ok_net_formed .nil)) (by kernel_rfl)
noncomputable def cb_z7z_L4 : Code := sub [1, 1, 0, 1, 0, 0] code_20
theorem s_z7z_L4 (g : C_z7z) (n : Nat) : StepOk (E_z7z g) g.N cb_z7z_L4 sh_z7z_L4 (LP_z7z_L4 g) n := by intro ps; unfold LP_z7z_L4; split; exact .inr fun R K => (by kernel_rfl); exact .inl fun R K => rfl
theorem lf_z7z_L4 [Fuel] : LoopFine (E_z7z I_z7z) NN cb_z7z_L4 := fine_loop sh_z7z_L4 (LP_z7z_L4 I_z7z) (by kernel_rfl) ct_z7z (cuts0 (fun _ => rfl) (by kernel_rfl)) (fun ps R K => by unfold LP_z7z_L4; split <;> (try unfold z7z_L4) <;> rfl) (s_z7z_L4 I_z7z)
noncomputable def cb_z7z_L14 : Code := sub [1, 1, 1, 1, 0, 1, 0, 0] code_20
theorem s_z7z_L14 (g : C_z7z) (n : Nat) : StepOk (E_z7z g) g.N cb_z7z_L14 sh_z7z_L14 (LP_z7z_L14 g) n := by intro ps; unfold LP_z7z_L14; split; exact .inr fun R K => (by kernel_rfl); exact .inl fun R K => rfl
theorem lf_z7z_L14 [Fuel] : LoopFine (E_z7z I_z7z) NN cb_z7z_L14 := fine_loop sh_z7z_L14 (LP_z7z_L14 I_z7z) (by kernel_rfl) ct_z7z (cuts0 (fun _ => rfl) (by kernel_rfl)) (fun ps R K => by unfold LP_z7z_L14; split <;> (try unfold z7z_L14) <;> rfl) (s_z7z_L14 I_z7z)
theorem sm_z7z (g : C_z7z) : Same (SS_z7z (@z7z_ g)) (abody (E_z7z g) Tryz.f20 code_20 4 [] [.asis] g.N) := by intro args; unfold SS_z7z; split; exact .inr fun R k => (by kernel_rfl); exact .inl fun R k => rfl
theorem ok_z7z [Fuel] : Ok 20 (SS_z7z (@z7z _)) := okF_of std (.cons ok_z24z (.cons ok_net_formed .nil)) ⟨rfl, rfl, by kernel_rfl, rfl, rfl, rfl⟩ (sm_z7z I_z7z) (cutsL (fun _ => rfl) (.cons lf_z7z_L4 (.cons lf_z7z_L14 .nil)) (by kernel_rfl)) Tryz.func20 (by kernel_rfl) (by kernel_rfl)
abbrev T_z56z : Type 1 := Int → {R : Type} → (List G_Deed → Option R) → Option R
def z56z [Fuel] : T_z56z := @X_grow G_Deed 176
def SS_z56z (g : T_z56z) : Spec A := fun args => match args with | [.d .nsl, .d (.int .i64 x1)] => fun k => g x1 (fun z => k (.arr 35 z) [.undef, .undef]) | _ => fun _ => none
theorem h1_z56z [Fuel] (xs : Int) (R : Type) (k : IV A → List (IV A) → Option R) : SS_z56z (@z56z _) [.d .nsl, .d (.int .i64 xs)] k = X_grow (α := A 35) 176 xs (fun z => k (.arr 35 z) [.undef, .undef]) := by kernel_rfl
theorem h2_z56z [Fuel] (args : List (IV A)) (R : Type) (k : IV A → List (IV A) → Option R) (h : ∀ xs : Int, args ≠ [.d .nsl, .d (.int .i64 xs)]) : SS_z56z (@z56z _) args k = none := by unfold SS_z56z; split; exact absurd rfl (h _); rfl
theorem ok_z56z [Fuel] : Ok 109 (SS_z56z (@z56z _)) := ⟨grow_fs (grow_sound rfl (tyOk Tryz.prog) (e := 35) (size := 15) (bytes := 176) (ty := 35) (by kernel_rfl) (fun w => grow_0 Tryz.grow109 w) (fun n w hn hb hm => grow_h Tryz.grow109 Tryz.ti35 Tryz.zv35 (by kernel_rfl) (by kernel_rfl) 15 176 (by kernel_rfl) (by kernel_rfl) (by decide) (by kernel_rfl) n w hn hb hm)) h1_z56z h2_z56z, grow_na h1_z56z h2_z56z, enters_of (fn := Tryz.f109) Tryz.func109 (by kernel_rfl) (by kernel_rfl)⟩
abbrev T_z13z : Type 1 := List (List G_Deed) → {R : Type} → (List G_Deed → Option R) → Option R
structure C_z13z where
 N : Nat
 z56z : T_z56z
def z13z_L3 (g : C_z13z) : Nat → List (List G_Deed) → Int → List (List G_Deed) → Int → Int → {R : Type} → (List (List G_Deed) → Int → Option R) → Option R
 | 0, _, _, _, _, _, _, _ => none
 | n + 1, v2, v3, v4, v5, v6, _, e0 => (bif (decide (v6 < v5)) then (get_ v4 v6 fun x8 => (bif (decide ((w64 (v3 + (x8.length : Int))) < 0)) then none else z13z_L3 g n v2 (w64 (v3 + (x8.length : Int))) v4 v5 (w64 (v6 + 1)) e0)) else e0 v2 v3)
def z13z_L11 (g : C_z13z) : Nat → List (List G_Deed) → Int → Int → List G_Deed → {R : Type} → (List G_Deed → Option R) → Option R
 | 0, _, _, _, _, _, _ => none
 | n + 1, v12, v13, v14, v15, _, e0 => (bif (decide (v14 < v13)) then (get_ v12 v14 fun x17 => (bif (decide ((v15.length + x17.length) * 176 ≤ roomBytes')) then z13z_L11 g n v12 v13 (w64 (v14 + 1)) (v15 ++ x17) e0 else none)) else e0 v15)
def z13z_ (g : C_z13z) (a1 : List (List G_Deed)) {R : Type} (k0 : List G_Deed → Option R) : Option R :=
 (z13z_L3 g g.N a1 0 a1 (a1.length : Int) 0 (fun e9 e10 => (g.z56z e10 (fun r11 => (z13z_L11 g g.N e9 (e9.length : Int) 0 r11 (fun e18 => k0 e18))))))
noncomputable def I_z13z [Fuel] : C_z13z := ⟨NN, @z56z _⟩
noncomputable def z13z [Fuel] : T_z13z := @z13z_ I_z13z
def SS_z13z (g : T_z13z) : Spec A := fun args => match args with | [.d (.sl 26 a1)] => fun k => g a1 (fun z0 => k (.arr 35 z0) [.undef]) | _ => fun _ => none
def sh_z13z_L3 : SSt := mkSh 36 3 [(0, .sl 26), (3, .int .i64), (9, .sl 26), (10, .int .i64), (11, .int .i64)] []
def LP_z13z_L3 (g : C_z13z) (n : Nat) : LPT A := fun ps => match ps with | [.d (.sl 26 p1), .d (.int .i64 p2), .d (.sl 26 p3), .d (.int .i64 p4), .d (.int .i64 p5)] => fun K => z13z_L3 g n p1 p2 p3 p4 p5 (fun z0 z1 => K (.exit 0) (mkSt 36 3 [(0, .d (.sl 26 z0)), (3, .d (.int .i64 z1))] [])) | _ => fun _ => none
def sh_z13z_L11 : SSt := mkSh 36 3 [(6, .own 35 1), (25, .sl 26), (26, .int .i64), (27, .int .i64)] [(1, .row 35)]
def LP_z13z_L11 (g : C_z13z) (n : Nat) : LPT A := fun ps => match ps with | [.d (.sl 26 p1), .d (.int .i64 p2), .d (.int .i64 p3), .d (.sl 35 p4)] => fun K => z13z_L11 g n p1 p2 p3 p4 (fun z0 => K (.exit 2) (mkSt 36 3 [(6, .own 35 1)] [(1, some (.row 35 z0))])) | _ => fun _ => none
noncomputable def code_61 : Code := (Tryz.f61.body).getD .skip
noncomputable def E_z13z (g : C_z13z) : Env A := mkE [(109, SS_z56z g.z56z)] [(24, [0]), (33, [2])] [(3, ⟨[0, 3, 9, 10, 11], [], [], [], [], [], []⟩), (11, ⟨[6, 25, 26, 27], [(6, 35, 1)], [], [], [], [], []⟩)] [(3, ⟨[0, 3], [], [], [], [], [], []⟩), (11, ⟨[6], [], [1], [], [], [], []⟩)] [(3, pieceOf sh_z13z_L3 (LP_z13z_L3 g g.N)), (11, pieceOf sh_z13z_L11 (LP_z13z_L11 g g.N))] [] [] [] [(109, 0)] []
theorem ct_z13z [Fuel] : NatTab (E_z13z I_z13z).C := ct_of (P := Tryz.prog) (T := T) (.cons ok_z56z .nil) (by kernel_rfl)
noncomputable def cb_z13z_L3 : Code := sub [1, 1, 0, 1, 0, 0] code_61
theorem s_z13z_L3 (g : C_z13z) (n : Nat) : StepOk (E_z13z g) g.N cb_z13z_L3 sh_z13z_L3 (LP_z13z_L3 g) n := by intro ps; unfold LP_z13z_L3; split; exact .inr fun R K => (by kernel_rfl); exact .inl fun R K => rfl
theorem lf_z13z_L3 [Fuel] : LoopFine (E_z13z I_z13z) NN cb_z13z_L3 := fine_loop sh_z13z_L3 (LP_z13z_L3 I_z13z) (by kernel_rfl) ct_z13z (cuts0 (fun _ => rfl) (by kernel_rfl)) (fun ps R K => by unfold LP_z13z_L3; split <;> (try unfold z13z_L3) <;> rfl) (s_z13z_L3 I_z13z)
noncomputable def cb_z13z_L11 : Code := sub [1, 1, 1, 1, 0, 1, 0, 0] code_61
theorem s_z13z_L11 (g : C_z13z) (n : Nat) : StepOk (E_z13z g) g.N cb_z13z_L11 sh_z13z_L11 (LP_z13z_L11 g) n := by intro ps; unfold LP_z13z_L11; split; exact .inr fun R K => (by kernel_rfl); exact .inl fun R K => rfl
theorem lf_z13z_L11 [Fuel] : LoopFine (E_z13z I_z13z) NN cb_z13z_L11 := fine_loop sh_z13z_L11 (LP_z13z_L11 I_z13z) (by kernel_rfl) ct_z13z (cuts0 (fun _ => rfl) (by kernel_rfl)) (fun ps R K => by unfold LP_z13z_L11; split <;> (try unfold z13z_L11) <;> rfl) (s_z13z_L11 I_z13z)
theorem sm_z13z (g : C_z13z) : Same (SS_z13z (@z13z_ g)) (abody (E_z13z g) Tryz.f61 code_61 3 [] [.arr 35] g.N) := by intro args; unfold SS_z13z; split; exact .inr fun R k => (by kernel_rfl); exact .inl fun R k => rfl
theorem ok_z13z [Fuel] : Ok 61 (SS_z13z (@z13z _)) := okF_of std (.cons ok_z56z .nil) ⟨rfl, rfl, by kernel_rfl, rfl, rfl, rfl⟩ (sm_z13z I_z13z) (cutsL (fun _ => rfl) (.cons lf_z13z_L3 (.cons lf_z13z_L11 .nil)) (by kernel_rfl)) Tryz.func61 (by kernel_rfl) (by kernel_rfl)
abbrev T_z27z : Type 1 := List G_Deed → {R : Type} → (List G_Deed → Option R) → Option R
noncomputable def z27z [Fuel] : T_z27z := @X_sortf G_Deed (@z24z _)
def SS_z27z (g : T_z27z) : Spec A := fun args => match args with | [.arr 35 a1, .fn 63 []] => fun k => g a1 (fun z => k (.tup []) [.arr 35 z, .fn 63 []]) | _ => fun _ => none
theorem h1_z27z [Fuel] (xs : List (A 35)) (R : Type) (k : IV A → List (IV A) → Option R) : SS_z27z (@z27z _) [.arr 35 xs, .fn 63 []] k = X_sortf (α := A 35) (@z24z _) xs (fun z => k (.tup []) [.arr 35 z, .fn 63 []]) := by kernel_rfl
theorem h2_z27z [Fuel] (args : List (IV A)) (R : Type) (k : IV A → List (IV A) → Option R) (h : ∀ xs : List (A 35), args ≠ [.arr 35 xs, .fn 63 []]) : SS_z27z (@z27z _) args k = none := by unfold SS_z27z; split; exact absurd rfl (h _); rfl
theorem hc_z27z [Fuel] (x y : A 35) (R : Type) (k : Int → Option R) : callOf T (SS_z24z (@z24z _)) 35 x y k = @z24z _ x y R k := by kernel_rfl
theorem hs_z27z (x : G_Deed) : (enc_e35 x).all scal = true := rfl
theorem ok_z27z [Fuel] : Ok 62 (SS_z27z (@z27z _)) := ⟨sortf_sound (tyOk Tryz.prog) (e := 35) Tryz.sortf62 Tryz.isAgg35 Tryz.sizeOf35 (fun x d hd => List.all_eq_true.1 (hs_z27z x) d hd) hc_z27z okd_z24z.fs okd_z24z.en h1_z27z h2_z27z, sortf_na (e := 35) h1_z27z h2_z27z, enters_of (fn := Tryz.f62) Tryz.func62 (by kernel_rfl) (by kernel_rfl)⟩
end Go.Am
