/- The functions of the program as Lean functions, each shown to be what the code computes, part 4. No condition: lemmas for the claim. -/
import Derived.Test.YtonhhbcacemaiaaGreatDoorF0
import Derived.Test.YtonhhbcacemaiaaGreatDoorFSh
import Derived.Test.YtonhhbcacemaiaaGreatDoorF2
import Derived.Test.YtonhhbcacemaiaaGreatDoorF3
set_option linter.unusedVariables false
set_option maxRecDepth 100000
namespace Go.Am
open Go Go.Proofs
abbrev T_call_based : Type 1 := List UInt8 → {R : Type} → (G_Parts → Bool → Option R) → Option R
structure C_call_based where
 N : Nat
 call_split : T_call_split
def call_based_ (g : C_call_based) (a1 : List UInt8) {R : Type} (k0 : G_Parts → Bool → Option R) : Option R :=
 (g.call_split a1 (fun r2 r3 => (bif (!r3) then k0 (⟨[], [], [], 0, []⟩ : G_Parts) false else (bif (decide (0 ≤ (w64 (r2 + 1))) && decide ((w64 (r2 + 1)) ≤ (a1.length : Int))) then (bif (decide (0 ≤ (w64 (r2 + 1))) && decide ((w64 (r2 + 1)) ≤ (a1.length : Int))) then k0 (⟨a1, (a1.take ((w64 (r2 + 1)) : Int).toNat), (a1.drop ((w64 (r2 + 1)) : Int).toNat), 0, []⟩ : G_Parts) true else none) else none))))
noncomputable def I_call_based [Fuel] : C_call_based := ⟨NN, @call_split _⟩
noncomputable def call_based [Fuel] : T_call_based := @call_based_ I_call_based
def SS_call_based (g : T_call_based) : Spec A := fun args => match args with | [.d (.str a1)] => fun k => g a1 (fun z0 z1 => k (.tup [.agg [.d (.str z0.f_Base), .d (.str z0.f_Prefix), .d (.str z0.f_Suffix), .d (.int .i64 z0.f_Kind), .d (.str z0.f_Added)], .d (.bool z1)]) [.undef]) | _ => fun _ => none
noncomputable def code_206 : Code := (Tryz.f206.body).getD .skip
noncomputable def E_call_based (g : C_call_based) : Env A := mkE [(247, SS_call_split g.call_split)] [(2, [0])] [] [] [] [] [] [] [] []
theorem sm_call_based (g : C_call_based) : Same (SS_call_based (@call_based_ g)) (abody (E_call_based g) Tryz.f206 code_206 1 [] [.asis, .asis] g.N) := by intro args; unfold SS_call_based; split; exact .inr fun R k => (by kernel_rfl); exact .inl fun R k => rfl
theorem ok_call_based [Fuel] : Ok 206 (SS_call_based (@call_based _)) := okF_of std (.cons ok_call_split .nil) ⟨rfl, rfl, by kernel_rfl, rfl, rfl, rfl⟩ (sm_call_based I_call_based) (cuts0 (fun _ => rfl) (by kernel_rfl)) Tryz.func206 (by kernel_rfl) (by kernel_rfl)
abbrev T_z82z : Type 1 := List UInt8 → {R : Type} → (Bool → Option R) → Option R
structure C_z82z where
 N : Nat
 z57z : T_z57z
def z82z_ (g : C_z82z) (a1 : List UInt8) {R : Type} (k0 : Bool → Option R) : Option R :=
 (g.z57z a1 (fun r2 r3 => (bif r3 then (bif (decide (r2 > 0)) then k0 (decide ((a1.length : Int) ≤ 4)) else k0 false) else k0 false)))
noncomputable def I_z82z [Fuel] : C_z82z := ⟨NN, @z57z _⟩
noncomputable def z82z [Fuel] : T_z82z := @z82z_ I_z82z
def SS_z82z (g : T_z82z) : Spec A := fun args => match args with | [.d (.str a1)] => fun k => g a1 (fun z0 => k (.d (.bool z0)) [.undef]) | _ => fun _ => none
noncomputable def code_207 : Code := (Tryz.f207.body).getD .skip
noncomputable def E_z82z (g : C_z82z) : Env A := mkE [(248, SS_z57z g.z57z)] [] [] [] [] [] [] [] [] []
theorem sm_z82z (g : C_z82z) : Same (SS_z82z (@z82z_ g)) (abody (E_z82z g) Tryz.f207 code_207 0 [] [.asis] g.N) := by intro args; unfold SS_z82z; split; exact .inr fun R k => (by kernel_rfl); exact .inl fun R k => rfl
theorem ok_z82z [Fuel] : Ok 207 (SS_z82z (@z82z _)) := okF_of std (.cons ok_z57z .nil) ⟨rfl, rfl, by kernel_rfl, rfl, rfl, rfl⟩ (sm_z82z I_z82z) (cuts0 (fun _ => rfl) (by kernel_rfl)) Tryz.func207 (by kernel_rfl) (by kernel_rfl)
abbrev T_call_tail : Type 1 := List UInt8 → {R : Type} → (Int → List UInt8 → Bool → Option R) → Option R
structure C_call_tail where
 N : Nat
 z82z : T_z82z
 z92z : T_z92z
def call_tail_ (g : C_call_tail) (a1 : List UInt8) {R : Type} (k0 : Int → List UInt8 → Bool → Option R) : Option R :=
 (bif (a1 == [112]) then k0 3 [] true else (bif (a1 == [109]) then k0 4 [] true else (bif (a1 == [109, 109]) then k0 5 [] true else (bif (a1 == [97, 109]) then k0 6 [] true else (bif ((a1.length : Int) == 1) then (at_ a1 0 fun x2 => (g.z92z (x2.toNat : Int) (fun r3 => (bif r3 then k0 2 a1 true else (g.z82z a1 (fun r4 => k0 1 a1 r4)))))) else (g.z82z a1 (fun r5 => k0 1 a1 r5)))))))
noncomputable def I_call_tail [Fuel] : C_call_tail := ⟨NN, @z82z _, @z92z _⟩
noncomputable def call_tail [Fuel] : T_call_tail := @call_tail_ I_call_tail
def SS_call_tail (g : T_call_tail) : Spec A := fun args => match args with | [.d (.str a1)] => fun k => g a1 (fun z0 z1 z2 => k (.tup [.d (.int .i64 z0), .d (.str z1), .d (.bool z2)]) [.undef]) | _ => fun _ => none
noncomputable def code_208 : Code := (Tryz.f208.body).getD .skip
noncomputable def E_call_tail (g : C_call_tail) : Env A := mkE [(207, SS_z82z g.z82z), (249, SS_z92z g.z92z)] [] [] [] [] [] [] [] [] []
theorem sm_call_tail (g : C_call_tail) : Same (SS_call_tail (@call_tail_ g)) (abody (E_call_tail g) Tryz.f208 code_208 0 [] [.asis, .asis, .asis] g.N) := by intro args; unfold SS_call_tail; split; exact .inr fun R k => (by kernel_rfl); exact .inl fun R k => rfl
theorem ok_call_tail [Fuel] : Ok 208 (SS_call_tail (@call_tail _)) := okF_of std (.cons ok_z82z (.cons ok_z92z .nil)) ⟨rfl, rfl, by kernel_rfl, rfl, rfl, rfl⟩ (sm_call_tail I_call_tail) (cuts0 (fun _ => rfl) (by kernel_rfl)) Tryz.func208 (by kernel_rfl) (by kernel_rfl)
abbrev T_call_Parts : Type 1 := List UInt8 → {R : Type} → (G_Parts → Bool → Option R) → Option R
structure C_call_Parts where
 N : Nat
 z86z : T_z86z
 call_based : T_call_based
 z82z : T_z82z
 call_tail : T_call_tail
def call_Parts_ (g : C_call_Parts) (a1 : List UInt8) {R : Type} (k0 : G_Parts → Bool → Option R) : Option R :=
 (bif (decide ((a1.length : Int) > 14)) then k0 (⟨[], [], [], 0, []⟩ : G_Parts) false else (g.call_based a1 (fun r2 r3 => (bif r3 then k0 r2 true else (g.z86z a1 [47] (fun r4 r5 r6 => (bif (!r6) then k0 (⟨[], [], [], 0, []⟩ : G_Parts) false else (g.call_based r5 (fun r7 r8 => (bif r8 then (g.z82z r4 (fun r9 => (bif r9 then k0 (⟨r7.f_Base, r7.f_Prefix, r7.f_Suffix, 1, r4⟩ : G_Parts) true else (g.call_based r4 (fun r10 r11 => (g.call_tail r5 (fun r12 r13 r14 => (bif (!r11) then k0 (⟨[], [], [], 0, []⟩ : G_Parts) false else (bif (!r14) then k0 (⟨[], [], [], 0, []⟩ : G_Parts) false else k0 (⟨r10.f_Base, r10.f_Prefix, r10.f_Suffix, r12, r13⟩ : G_Parts) true))))))))) else (g.call_based r4 (fun r15 r16 => (g.call_tail r5 (fun r17 r18 r19 => (bif (!r16) then k0 (⟨[], [], [], 0, []⟩ : G_Parts) false else (bif (!r19) then k0 (⟨[], [], [], 0, []⟩ : G_Parts) false else k0 (⟨r15.f_Base, r15.f_Prefix, r15.f_Suffix, r17, r18⟩ : G_Parts) true))))))))))))))))
noncomputable def I_call_Parts [Fuel] : C_call_Parts := ⟨NN, @z86z _, @call_based _, @z82z _, @call_tail _⟩
noncomputable def call_Parts [Fuel] : T_call_Parts := @call_Parts_ I_call_Parts
def SS_call_Parts (g : T_call_Parts) : Spec A := fun args => match args with | [.d (.str a1)] => fun k => g a1 (fun z0 z1 => k (.tup [.agg [.d (.str z0.f_Base), .d (.str z0.f_Prefix), .d (.str z0.f_Suffix), .d (.int .i64 z0.f_Kind), .d (.str z0.f_Added)], .d (.bool z1)]) [.undef]) | _ => fun _ => none
noncomputable def code_148 : Code := (Tryz.f148.body).getD .skip
noncomputable def E_call_Parts (g : C_call_Parts) : Env A := mkE [(131, SS_z86z g.z86z), (206, SS_call_based g.call_based), (207, SS_z82z g.z82z), (208, SS_call_tail g.call_tail)] [(2, [0]), (4, [1]), (9, [2]), (11, [3])] [] [] [] [] [] [] [] []
theorem sm_call_Parts (g : C_call_Parts) : Same (SS_call_Parts (@call_Parts_ g)) (abody (E_call_Parts g) Tryz.f148 code_148 4 [] [.asis, .asis] g.N) := by intro args; unfold SS_call_Parts; split; exact .inr fun R k => (by kernel_rfl); exact .inl fun R k => rfl
theorem ok_call_Parts [Fuel] : Ok 148 (SS_call_Parts (@call_Parts _)) := okF_of std (.cons ok_z86z (.cons ok_call_based (.cons ok_z82z (.cons ok_call_tail .nil)))) ⟨rfl, rfl, by kernel_rfl, rfl, rfl, rfl⟩ (sm_call_Parts I_call_Parts) (cuts0 (fun _ => rfl) (by kernel_rfl)) Tryz.func148 (by kernel_rfl) (by kernel_rfl)
abbrev T_call_Is : Type 1 := List UInt8 → {R : Type} → (Bool → Option R) → Option R
structure C_call_Is where
 N : Nat
 call_Parts : T_call_Parts
def call_Is_ (g : C_call_Is) (a1 : List UInt8) {R : Type} (k0 : Bool → Option R) : Option R :=
 (g.call_Parts a1 (fun r2 r3 => k0 r3))
noncomputable def I_call_Is [Fuel] : C_call_Is := ⟨NN, @call_Parts _⟩
noncomputable def call_Is [Fuel] : T_call_Is := @call_Is_ I_call_Is
def SS_call_Is (g : T_call_Is) : Spec A := fun args => match args with | [.d (.str a1)] => fun k => g a1 (fun z0 => k (.d (.bool z0)) [.undef]) | _ => fun _ => none
noncomputable def code_97 : Code := (Tryz.f97.body).getD .skip
noncomputable def E_call_Is (g : C_call_Is) : Env A := mkE [(148, SS_call_Parts g.call_Parts)] [(3, [0])] [] [] [] [] [] [] [] []
theorem sm_call_Is (g : C_call_Is) : Same (SS_call_Is (@call_Is_ g)) (abody (E_call_Is g) Tryz.f97 code_97 1 [] [.asis] g.N) := by intro args; unfold SS_call_Is; split; exact .inr fun R k => (by kernel_rfl); exact .inl fun R k => rfl
theorem ok_call_Is [Fuel] : Ok 97 (SS_call_Is (@call_Is _)) := okF_of std (.cons ok_call_Parts .nil) ⟨rfl, rfl, by kernel_rfl, rfl, rfl, rfl⟩ (sm_call_Is I_call_Is) (cuts0 (fun _ => rfl) (by kernel_rfl)) Tryz.func97 (by kernel_rfl) (by kernel_rfl)
abbrev T_kit_IsName : Type 1 := List UInt8 → {R : Type} → (Bool → Option R) → Option R
structure C_kit_IsName where
 N : Nat
 kit_IsKey : T_kit_IsKey
def kit_IsName_ (g : C_kit_IsName) (a1 : List UInt8) {R : Type} (k0 : Bool → Option R) : Option R :=
 (bif (a1 == []) then k0 true else (g.kit_IsKey a1 (fun r2 => k0 r2)))
noncomputable def I_kit_IsName [Fuel] : C_kit_IsName := ⟨NN, @kit_IsKey _⟩
noncomputable def kit_IsName [Fuel] : T_kit_IsName := @kit_IsName_ I_kit_IsName
def SS_kit_IsName (g : T_kit_IsName) : Spec A := fun args => match args with | [.d (.str a1)] => fun k => g a1 (fun z0 => k (.d (.bool z0)) [.undef]) | _ => fun _ => none
noncomputable def code_199 : Code := (Tryz.f199.body).getD .skip
noncomputable def E_kit_IsName (g : C_kit_IsName) : Env A := mkE [(49, SS_kit_IsKey g.kit_IsKey)] [] [] [] [] [] [] [] [] []
theorem sm_kit_IsName (g : C_kit_IsName) : Same (SS_kit_IsName (@kit_IsName_ g)) (abody (E_kit_IsName g) Tryz.f199 code_199 0 [] [.asis] g.N) := by intro args; unfold SS_kit_IsName; split; exact .inr fun R k => (by kernel_rfl); exact .inl fun R k => rfl
theorem ok_kit_IsName [Fuel] : Ok 199 (SS_kit_IsName (@kit_IsName _)) := okF_of std (.cons ok_kit_IsKey .nil) ⟨rfl, rfl, by kernel_rfl, rfl, rfl, rfl⟩ (sm_kit_IsName I_kit_IsName) (cuts0 (fun _ => rfl) (by kernel_rfl)) Tryz.func199 (by kernel_rfl) (by kernel_rfl)
abbrev T_z70z : Type 1 := G_Contact → {R : Type} → (Int → Option R) → Option R
structure C_z70z where
 N : Nat
 kit_IsKey : T_kit_IsKey
 kit_IsMode : T_kit_IsMode
 z65z : T_z65z
 z52z : T_z52z
 call_Is : T_call_Is
 kit_IsName : T_kit_IsName
def z70z_ (g : C_z70z) (a1 : G_Contact) {R : Type} (k0 : Int → Option R) : Option R :=
 (g.z65z a1.f_At (fun r2 => (bif (!r2) then k0 1 else (g.kit_IsMode a1.f_Mode (fun r3 => (bif (!r3) then k0 4 else (g.kit_IsKey a1.f_Band (fun r4 => (bif (!r4) then k0 5 else (g.call_Is a1.f_Call (fun r5 => (bif (!r5) then k0 3 else (g.z52z a1.f_Sent 0 99999 (fun r6 => (bif r6 then k0 1 else (g.z52z a1.f_Heard 0 99999 (fun r7 => (bif r7 then k0 1 else (g.kit_IsName a1.f_Gave (fun r8 => (bif (!r8) then k0 5 else (g.kit_IsName a1.f_Got (fun r9 => (bif (!r9) then k0 5 else k0 0))))))))))))))))))))))))
noncomputable def I_z70z [Fuel] : C_z70z := ⟨NN, @kit_IsKey _, @kit_IsMode _, @z65z _, @z52z _, @call_Is _, @kit_IsName _⟩
noncomputable def z70z [Fuel] : T_z70z := @z70z_ I_z70z
def SS_z70z (g : T_z70z) : Spec A := fun args => match args with | [.agg [.d (.int .i64 a1), .d (.int .i64 a2), .d (.str a3), .d (.str a4), .d (.int .i64 a5), .d (.int .i64 a6), .d (.str a7), .d (.str a8)]] => fun k => g ⟨a1, a2, a3, a4, a5, a6, a7, a8⟩ (fun z0 => k (.d (.int .i64 z0)) [.undef]) | _ => fun _ => none
noncomputable def code_164 : Code := (Tryz.f164.body).getD .skip
noncomputable def E_z70z (g : C_z70z) : Env A := mkE [(49, SS_kit_IsKey g.kit_IsKey), (50, SS_kit_IsMode g.kit_IsMode), (51, SS_z65z g.z65z), (60, SS_z52z g.z52z), (97, SS_call_Is g.call_Is), (199, SS_kit_IsName g.kit_IsName)] [(1, [0])] [] [] [] [] [] [] [] []
theorem sm_z70z (g : C_z70z) : Same (SS_z70z (@z70z_ g)) (abody (E_z70z g) Tryz.f164 code_164 1 [] [.asis] g.N) := by intro args; unfold SS_z70z; split; exact .inr fun R k => (by kernel_rfl); exact .inl fun R k => rfl
theorem ok_z70z [Fuel] : Ok 164 (SS_z70z (@z70z _)) := okF_of std (.cons ok_kit_IsKey (.cons ok_kit_IsMode (.cons ok_z65z (.cons ok_z52z (.cons ok_call_Is (.cons ok_kit_IsName .nil)))))) ⟨rfl, rfl, by kernel_rfl, rfl, rfl, rfl⟩ (sm_z70z I_z70z) (cuts0 (fun _ => rfl) (by kernel_rfl)) Tryz.func164 (by kernel_rfl) (by kernel_rfl)
abbrev T_z77z : Type 1 := Int → {R : Type} → (Bool → Option R) → Option R
def z77z_ (g : Nat) (a1 : Int) {R : Type} (k0 : Bool → Option R) : Option R :=
 k0 (a1 != a1)
noncomputable def z77z [Fuel] : T_z77z := @z77z_ NN
def SS_z77z (g : T_z77z) : Spec A := fun args => match args with | [.d (.int .i64 a1)] => fun k => g a1 (fun z0 => k (.d (.bool z0)) [.undef]) | _ => fun _ => none
noncomputable def code_151 : Code := (Tryz.f151.body).getD .skip
noncomputable def E_z77z (g : Nat) : Env A := mkE [] [] [] [] [] [] [] [] [] []
theorem sm_z77z (g : Nat) : Same (SS_z77z (@z77z_ g)) (abody (E_z77z g) Tryz.f151 code_151 0 [] [.asis] g) := by intro args; unfold SS_z77z; split; exact .inr fun R k => (by kernel_rfl); exact .inl fun R k => rfl
theorem ok_z77z [Fuel] : Ok 151 (SS_z77z (@z77z _)) := okF_of std .nil ⟨rfl, rfl, by kernel_rfl, rfl, rfl, rfl⟩ (sm_z77z NN) (cuts0 (fun _ => rfl) (by kernel_rfl)) Tryz.func151 (by kernel_rfl) (by kernel_rfl)
noncomputable def Ed_z77z (g : Nat) : Env A := mkED [] [] [] [] [] [] [] [] [] []
theorem smd_z77z (g : Nat) : Same (SS_z77z (@z77z_ g)) (abody (Ed_z77z g) Tryz.f151 code_151 0 [] [.asis] g) := by intro args; unfold SS_z77z; split; exact .inr fun R k => (by kernel_rfl); exact .inl fun R k => rfl
theorem okd_z77z [Fuel] : OkD 151 (SS_z77z (@z77z _)) := okF_of stdD .nil ⟨rfl, rfl, by kernel_rfl, rfl, rfl, rfl⟩ (smd_z77z NN) (cuts0 (fun _ => rfl) (by kernel_rfl)) Tryz.func151 (by kernel_rfl) (by kernel_rfl)
abbrev T_z35z : Type 1 := Int → Int → {R : Type} → (Int → Option R) → Option R
structure C_z35z where
 N : Nat
 z77z : T_z77z
def z35z_ (g : C_z35z) (a1 a2 : Int) {R : Type} (k0 : Int → Option R) : Option R :=
 (g.z77z a1 (fun r3 => (g.z77z a2 (fun r4 => (bif r3 then (bif r4 then k0 0 else k0 (-1)) else (bif r4 then k0 1 else (bif (decide (a1 < a2)) then k0 (-1) else (bif (decide (a1 > a2)) then k0 1 else k0 0))))))))
noncomputable def I_z35z [Fuel] : C_z35z := ⟨NN, @z77z _⟩
noncomputable def z35z [Fuel] : T_z35z := @z35z_ I_z35z
def SS_z35z (g : T_z35z) : Spec A := fun args => match args with | [.d (.int .i64 a1), .d (.int .i64 a2)] => fun k => g a1 a2 (fun z0 => k (.d (.int .i64 z0)) [.undef, .undef]) | _ => fun _ => none
noncomputable def code_105 : Code := (Tryz.f105.body).getD .skip
noncomputable def E_z35z (g : C_z35z) : Env A := mkE [(151, SS_z77z g.z77z)] [] [] [] [] [] [] [] [] []
theorem sm_z35z (g : C_z35z) : Same (SS_z35z (@z35z_ g)) (abody (E_z35z g) Tryz.f105 code_105 0 [] [.asis] g.N) := by intro args; unfold SS_z35z; split; exact .inr fun R k => (by kernel_rfl); exact .inl fun R k => rfl
theorem ok_z35z [Fuel] : Ok 105 (SS_z35z (@z35z _)) := okF_of std (.cons ok_z77z .nil) ⟨rfl, rfl, by kernel_rfl, rfl, rfl, rfl⟩ (sm_z35z I_z35z) (cuts0 (fun _ => rfl) (by kernel_rfl)) Tryz.func105 (by kernel_rfl) (by kernel_rfl)
noncomputable def Ed_z35z (g : C_z35z) : Env A := mkED [(151, SS_z77z g.z77z)] [] [] [] [] [] [] [] [] []
theorem smd_z35z (g : C_z35z) : Same (SS_z35z (@z35z_ g)) (abody (Ed_z35z g) Tryz.f105 code_105 0 [] [.asis] g.N) := by intro args; unfold SS_z35z; split; exact .inr fun R k => (by kernel_rfl); exact .inl fun R k => rfl
theorem okd_z35z [Fuel] : OkD 105 (SS_z35z (@z35z _)) := okF_of stdD (.cons okd_z77z .nil) ⟨rfl, rfl, by kernel_rfl, rfl, rfl, rfl⟩ (smd_z35z I_z35z) (cuts0 (fun _ => rfl) (by kernel_rfl)) Tryz.func105 (by kernel_rfl) (by kernel_rfl)
abbrev T_strings_Compare : Type 1 := List UInt8 → List UInt8 → {R : Type} → (Int → Option R) → Option R
def strings_Compare [Fuel] : T_strings_Compare := @X_cmp
def SS_strings_Compare (g : T_strings_Compare) : Spec A := SSX_cmp g
theorem ok_strings_Compare [Fuel] : Ok 56 (SS_strings_Compare (@strings_Compare _)) := ⟨ssx_cmp_sound (cmp_sound (Any.strings_Compare Tryz.lays106)), ssx_cmp_nat, enters_of (fn := Tryz.f56) Tryz.func56 (by kernel_rfl) (by kernel_rfl)⟩
theorem okd_strings_Compare [Fuel] : OkD 56 (SS_strings_Compare (@strings_Compare _)) := ⟨ssx_cmp_sound (cmp_sound (Any.strings_Compare Tryz.lays106)), ssx_cmp_nat, enters_of (fn := Tryz.f56) Tryz.func56 (by kernel_rfl) (by kernel_rfl)⟩
abbrev T_z34z : Type 1 := List Int → {R : Type} → (Int → Option R) → Option R
def z34z_L3 (g : Nat) : Nat → Int → List Int → Int → Int → {R : Type} → (Int → Int → Option R) → (Int → Option R) → Option R
 | 0, _, _, _, _, _, _, _ => none
 | n + 1, v2, v3, v4, v5, _, e0, e1 => (bif (decide (v5 < v4)) then (get_ v3 v5 fun x7 => (bif (x7 != v2) then e0 x7 v2 else z34z_L3 g n v2 v3 v4 (w64 (v5 + 1)) e0 e1)) else e1 v2)
def z34z_ (g : Nat) (a1 : List Int) {R : Type} (k0 : Int → Option R) : Option R :=
 (z34z_L3 g g 0 a1 (a1.length : Int) 0 (fun e8 e9 => k0 e8) (fun e10 => k0 e10))
noncomputable def z34z [Fuel] : T_z34z := @z34z_ NN
def SS_z34z (g : T_z34z) : Spec A := fun args => match args with | [.d (.sl 3 a1)] => fun k => g a1 (fun z0 => k (.d (.int .i64 z0)) [.undef]) | _ => fun _ => none
def sh_z34z_L3 : SSt := mkSh 18 0 [(3, .int .i64), (6, .sl 3), (7, .int .i64), (8, .int .i64)] []
def LP_z34z_L3 (g : Nat) (n : Nat) : LPT A := fun ps => match ps with | [.d (.int .i64 p1), .d (.sl 3 p2), .d (.int .i64 p3), .d (.int .i64 p4)] => fun K => z34z_L3 g n p1 p2 p3 p4 (fun z0 z1 => K .ret (mkSt 18 0 [(2, .d (.int .i64 z0)), (3, .d (.int .i64 z1))] [])) (fun z0 => K (.exit 0) (mkSt 18 0 [(3, .d (.int .i64 z0))] [])) | _ => fun _ => none
noncomputable def code_77 : Code := (Tryz.f77.body).getD .skip
noncomputable def E_z34z (g : Nat) : Env A := mkE [] [] [(3, ⟨[3, 6, 7, 8], [], [], [], [], []⟩)] [(3, ⟨[2, 3], [], [], [], [], []⟩)] [(3, pieceOf sh_z34z_L3 (LP_z34z_L3 g g))] [] [] [] [] []
theorem ct_z34z [Fuel] : NatTab (E_z34z NN).C := ct_of (P := Tryz.prog) (T := T) .nil (by kernel_rfl)
noncomputable def cb_z34z_L3 : Code := sub [1, 1, 0, 1, 0, 0] code_77
theorem s_z34z_L3 (g : Nat) (n : Nat) : StepOk (E_z34z g) g cb_z34z_L3 sh_z34z_L3 (LP_z34z_L3 g) n := by intro ps; unfold LP_z34z_L3; split; exact .inr fun R K => (by kernel_rfl); exact .inl fun R K => rfl
theorem lf_z34z_L3 [Fuel] : LoopFine (E_z34z NN) NN cb_z34z_L3 := fine_loop sh_z34z_L3 (LP_z34z_L3 NN) (by kernel_rfl) ct_z34z (cuts0 (fun _ => rfl) (by kernel_rfl)) (fun ps R K => by unfold LP_z34z_L3; split <;> (try unfold z34z_L3) <;> rfl) (s_z34z_L3 NN)
theorem sm_z34z (g : Nat) : Same (SS_z34z (@z34z_ g)) (abody (E_z34z g) Tryz.f77 code_77 0 [] [.asis] g) := by intro args; unfold SS_z34z; split; exact .inr fun R k => (by kernel_rfl); exact .inl fun R k => rfl
theorem ok_z34z [Fuel] : Ok 77 (SS_z34z (@z34z _)) := okF_of std .nil ⟨rfl, rfl, by kernel_rfl, rfl, rfl, rfl⟩ (sm_z34z NN) (cutsL (fun _ => rfl) (.cons lf_z34z_L3 .nil) (by kernel_rfl)) Tryz.func77 (by kernel_rfl) (by kernel_rfl)
noncomputable def Ed_z34z (g : Nat) : Env A := mkED [] [] [(3, ⟨[3, 6, 7, 8], [], [], [], [], []⟩)] [(3, ⟨[2, 3], [], [], [], [], []⟩)] [(3, pieceOf sh_z34z_L3 (LP_z34z_L3 g g))] [] [] [] [] []
theorem ctd_z34z [Fuel] : NatTab (Ed_z34z NN).C := ct_of (P := Tryz.prog) (T := TD) .nil (by kernel_rfl)
theorem sd_z34z_L3 (g : Nat) (n : Nat) : StepOk (Ed_z34z g) g cb_z34z_L3 sh_z34z_L3 (LP_z34z_L3 g) n := by intro ps; unfold LP_z34z_L3; split; exact .inr fun R K => (by kernel_rfl); exact .inl fun R K => rfl
theorem lfd_z34z_L3 [Fuel] : LoopFine (Ed_z34z NN) NN cb_z34z_L3 := fine_loop sh_z34z_L3 (LP_z34z_L3 NN) (by kernel_rfl) ctd_z34z (cuts0 (fun _ => rfl) (by kernel_rfl)) (fun ps R K => by unfold LP_z34z_L3; split <;> (try unfold z34z_L3) <;> rfl) (sd_z34z_L3 NN)
theorem smd_z34z (g : Nat) : Same (SS_z34z (@z34z_ g)) (abody (Ed_z34z g) Tryz.f77 code_77 0 [] [.asis] g) := by intro args; unfold SS_z34z; split; exact .inr fun R k => (by kernel_rfl); exact .inl fun R k => rfl
theorem okd_z34z [Fuel] : OkD 77 (SS_z34z (@z34z _)) := okF_of stdD .nil ⟨rfl, rfl, by kernel_rfl, rfl, rfl, rfl⟩ (smd_z34z NN) (cutsL (fun _ => rfl) (.cons lfd_z34z_L3 .nil) (by kernel_rfl)) Tryz.func77 (by kernel_rfl) (by kernel_rfl)
abbrev T_z55z : Type 1 := G_Contact → G_Contact → {R : Type} → (Int → Option R) → Option R
structure C_z55z where
 N : Nat
 strings_Compare : T_strings_Compare
 z34z : T_z34z
 z35z : T_z35z
def z55z_ (g : C_z55z) (a1 a2 : G_Contact) {R : Type} (k0 : Int → Option R) : Option R :=
 (g.z35z a1.f_At a2.f_At (fun r3 => (g.strings_Compare a1.f_Call a2.f_Call (fun r4 => (g.strings_Compare a1.f_Band a2.f_Band (fun r5 => (g.z35z a1.f_Mode a2.f_Mode (fun r6 => (g.z34z [r3, r4, r5, r6] (fun r7 => k0 r7))))))))))
noncomputable def I_z55z [Fuel] : C_z55z := ⟨NN, @strings_Compare _, @z34z _, @z35z _⟩
noncomputable def z55z [Fuel] : T_z55z := @z55z_ I_z55z
def SS_z55z (g : T_z55z) : Spec A := fun args => match args with | [.agg [.d (.int .i64 a1), .d (.int .i64 a2), .d (.str a3), .d (.str a4), .d (.int .i64 a5), .d (.int .i64 a6), .d (.str a7), .d (.str a8)], .agg [.d (.int .i64 a9), .d (.int .i64 a10), .d (.str a11), .d (.str a12), .d (.int .i64 a13), .d (.int .i64 a14), .d (.str a15), .d (.str a16)]] => fun k => g ⟨a1, a2, a3, a4, a5, a6, a7, a8⟩ ⟨a9, a10, a11, a12, a13, a14, a15, a16⟩ (fun z0 => k (.d (.int .i64 z0)) [.undef, .undef]) | _ => fun _ => none
noncomputable def code_165 : Code := (Tryz.f165.body).getD .skip
noncomputable def E_z55z (g : C_z55z) : Env A := mkE [(56, SS_strings_Compare g.strings_Compare), (77, SS_z34z g.z34z), (105, SS_z35z g.z35z)] [(2, [0]), (3, [1]), (25, [2])] [] [] [] [] [] [] [] []
theorem sm_z55z (g : C_z55z) : Same (SS_z55z (@z55z_ g)) (abody (E_z55z g) Tryz.f165 code_165 3 [] [.asis] g.N) := by intro args; unfold SS_z55z; split; exact .inr fun R k => (by kernel_rfl); exact .inl fun R k => rfl
theorem ok_z55z [Fuel] : Ok 165 (SS_z55z (@z55z _)) := okF_of std (.cons ok_strings_Compare (.cons ok_z34z (.cons ok_z35z .nil))) ⟨rfl, rfl, by kernel_rfl, rfl, rfl, rfl⟩ (sm_z55z I_z55z) (cuts0 (fun _ => rfl) (by kernel_rfl)) Tryz.func165 (by kernel_rfl) (by kernel_rfl)
noncomputable def Ed_z55z (g : C_z55z) : Env A := mkED [(56, SS_strings_Compare g.strings_Compare), (77, SS_z34z g.z34z), (105, SS_z35z g.z35z)] [(2, [0]), (3, [1]), (25, [2])] [] [] [] [] [] [] [] []
theorem smd_z55z (g : C_z55z) : Same (SS_z55z (@z55z_ g)) (abody (Ed_z55z g) Tryz.f165 code_165 3 [] [.asis] g.N) := by intro args; unfold SS_z55z; split; exact .inr fun R k => (by kernel_rfl); exact .inl fun R k => rfl
theorem okd_z55z [Fuel] : OkD 165 (SS_z55z (@z55z _)) := okF_of stdD (.cons okd_strings_Compare (.cons okd_z34z (.cons okd_z35z .nil))) ⟨rfl, rfl, by kernel_rfl, rfl, rfl, rfl⟩ (smd_z55z I_z55z) (cuts0 (fun _ => rfl) (by kernel_rfl)) Tryz.func165 (by kernel_rfl) (by kernel_rfl)
abbrev T_z59z : Type 1 := List G_Contact → {R : Type} → (Int → Option R) → Option R
structure C_z59z where
 N : Nat
 z70z : T_z70z
 z55z : T_z55z
def z59z_L4 (g : C_z59z) : Nat → List G_Contact → List G_Contact → Int → Int → {R : Type} → (Int → Option R) → Option R → Option R
 | 0, _, _, _, _, _, _, _ => none
 | n + 1, v2, v3, v4, v5, _, e0, e1 => (bif (decide (v5 < v4)) then (get_ v3 v5 fun x10 => (g.z70z x10 (fun r11 => (bif (r11 != 0) then e0 r11 else (bif (decide (v5 > 0)) then (get_ v2 (w64 (v5 - 1)) fun x12 => (g.z55z x12 x10 (fun r13 => (bif (decide (r13 ≥ 0)) then e0 7 else z59z_L4 g n v2 v3 v4 (w64 (v5 + 1)) e0 e1)))) else z59z_L4 g n v2 v3 v4 (w64 (v5 + 1)) e0 e1))))) else e1)
def z59z_ (g : C_z59z) (a1 : List G_Contact) {R : Type} (k0 : Int → Option R) : Option R :=
 (bif (decide ((a1.length : Int) > 2000)) then k0 2 else (z59z_L4 g g.N a1 a1 (a1.length : Int) 0 (fun e14 => k0 e14) (k0 0)))
noncomputable def I_z59z [Fuel] : C_z59z := ⟨NN, @z70z _, @z55z _⟩
noncomputable def z59z [Fuel] : T_z59z := @z59z_ I_z59z
def SS_z59z (g : T_z59z) : Spec A := fun args => match args with | [.d (.sl 104 a1)] => fun k => g a1 (fun z0 => k (.d (.int .i64 z0)) [.undef]) | _ => fun _ => none
def sh_z59z_L4 : SSt := mkSh 34 1 [(0, .sl 104), (9, .sl 104), (10, .int .i64), (11, .int .i64)] []
def LP_z59z_L4 (g : C_z59z) (n : Nat) : LPT A := fun ps => match ps with | [.d (.sl 104 p1), .d (.sl 104 p2), .d (.int .i64 p3), .d (.int .i64 p4)] => fun K => z59z_L4 g n p1 p2 p3 p4 (fun z0 => K .ret (mkSt 34 1 [(2, .d (.int .i64 z0))] [])) (K (.exit 0) (mkSt 34 1 [] [])) | _ => fun _ => none
noncomputable def code_116 : Code := (Tryz.f116.body).getD .skip
noncomputable def E_z59z (g : C_z59z) : Env A := mkE [(164, SS_z70z g.z70z), (165, SS_z55z g.z55z)] [(4, [0])] [(4, ⟨[0, 9, 10, 11], [], [], [], [], []⟩)] [(4, ⟨[2], [], [], [], [], []⟩)] [(4, pieceOf sh_z59z_L4 (LP_z59z_L4 g g.N))] [] [] [] [] []
theorem ct_z59z [Fuel] : NatTab (E_z59z I_z59z).C := ct_of (P := Tryz.prog) (T := T) (.cons ok_z70z (.cons ok_z55z .nil)) (by kernel_rfl)
noncomputable def cb_z59z_L4 : Code := sub [1, 1, 0, 1, 0, 0] code_116
theorem s_z59z_L4 (g : C_z59z) (n : Nat) : StepOk (E_z59z g) g.N cb_z59z_L4 sh_z59z_L4 (LP_z59z_L4 g) n := by intro ps; unfold LP_z59z_L4; split; exact .inr fun R K => (by kernel_rfl); exact .inl fun R K => rfl
theorem lf_z59z_L4 [Fuel] : LoopFine (E_z59z I_z59z) NN cb_z59z_L4 := fine_loop sh_z59z_L4 (LP_z59z_L4 I_z59z) (by kernel_rfl) ct_z59z (cuts0 (fun _ => rfl) (by kernel_rfl)) (fun ps R K => by unfold LP_z59z_L4; split <;> (try unfold z59z_L4) <;> rfl) (s_z59z_L4 I_z59z)
theorem sm_z59z (g : C_z59z) : Same (SS_z59z (@z59z_ g)) (abody (E_z59z g) Tryz.f116 code_116 1 [] [.asis] g.N) := by intro args; unfold SS_z59z; split; exact .inr fun R k => (by kernel_rfl); exact .inl fun R k => rfl
theorem ok_z59z [Fuel] : Ok 116 (SS_z59z (@z59z _)) := okF_of std (.cons ok_z70z (.cons ok_z55z .nil)) ⟨rfl, rfl, by kernel_rfl, rfl, rfl, rfl⟩ (sm_z59z I_z59z) (cutsL (fun _ => rfl) (.cons lf_z59z_L4 .nil) (by kernel_rfl)) Tryz.func116 (by kernel_rfl) (by kernel_rfl)
abbrev T_z73z : Type 1 := List UInt8 → {R : Type} → (List UInt8 → Option R) → Option R
structure C_z73z where
 N : Nat
 call_Parts : T_call_Parts
def z73z_ (g : C_z73z) (a1 : List UInt8) {R : Type} (k0 : List UInt8 → Option R) : Option R :=
 (g.call_Parts a1 (fun r2 r3 => k0 r2.f_Base))
noncomputable def I_z73z [Fuel] : C_z73z := ⟨NN, @call_Parts _⟩
noncomputable def z73z [Fuel] : T_z73z := @z73z_ I_z73z
def SS_z73z (g : T_z73z) : Spec A := fun args => match args with | [.d (.str a1)] => fun k => g a1 (fun z0 => k (.d (.str z0)) [.undef]) | _ => fun _ => none
noncomputable def code_99 : Code := (Tryz.f99.body).getD .skip
noncomputable def E_z73z (g : C_z73z) : Env A := mkE [(148, SS_call_Parts g.call_Parts)] [(3, [0])] [] [] [] [] [] [] [] []
theorem sm_z73z (g : C_z73z) : Same (SS_z73z (@z73z_ g)) (abody (E_z73z g) Tryz.f99 code_99 1 [] [.asis] g.N) := by intro args; unfold SS_z73z; split; exact .inr fun R k => (by kernel_rfl); exact .inl fun R k => rfl
theorem ok_z73z [Fuel] : Ok 99 (SS_z73z (@z73z _)) := okF_of std (.cons ok_call_Parts .nil) ⟨rfl, rfl, by kernel_rfl, rfl, rfl, rfl⟩ (sm_z73z I_z73z) (cuts0 (fun _ => rfl) (by kernel_rfl)) Tryz.func99 (by kernel_rfl) (by kernel_rfl)
abbrev T_log_dupes : Type 1 := List G_Contact → {R : Type} → (List Int → Option R) → Option R
structure C_log_dupes where
 N : Nat
 z73z : T_z73z
def log_dupes_L4 (g : C_log_dupes) : Nat → List G_Contact → Int → Int → List (G_log_worked × Bool) → List Int → {R : Type} → (List Int → Option R) → Option R
 | 0, _, _, _, _, _, _, _ => none
 | n + 1, v2, v3, v4, v5, v6, _, e0 => (bif (decide (v4 < v3)) then (get_ v2 v4 fun x9 => (g.z73z x9.f_Call (fun r10 => (bif ((mget_log_worked_bool (⟨r10, x9.f_Band, x9.f_Mode⟩ : G_log_worked) v5).getD false) then (bif (decide ((v6.length + [v4].length) * 8 ≤ roomBytes')) then log_dupes_L4 g n v2 v3 (w64 (v4 + 1)) (mset_log_worked_bool (⟨r10, x9.f_Band, x9.f_Mode⟩ : G_log_worked) true v5) (v6 ++ [v4]) e0 else none) else log_dupes_L4 g n v2 v3 (w64 (v4 + 1)) (mset_log_worked_bool (⟨r10, x9.f_Band, x9.f_Mode⟩ : G_log_worked) true v5) v6 e0)))) else e0 v6)
def log_dupes_ (g : C_log_dupes) (a1 : List G_Contact) {R : Type} (k0 : List Int → Option R) : Option R :=
 (log_dupes_L4 g g.N a1 (a1.length : Int) 0 [] [] (fun e11 => k0 e11))
noncomputable def I_log_dupes [Fuel] : C_log_dupes := ⟨NN, @z73z _⟩
noncomputable def log_dupes [Fuel] : T_log_dupes := @log_dupes_ I_log_dupes
def SS_log_dupes (g : T_log_dupes) : Spec A := fun args => match args with | [.d (.sl 104 a1)] => fun k => g a1 (fun z0 => k (.arr 3 z0) [.undef]) | _ => fun _ => none
def sh_log_dupes_L4 : SSt := mkSh 35 6 [(3, .mp 0), (4, .own 3 1), (9, .sl 104), (10, .int .i64), (11, .int .i64)] [(0, .mp 211 4), (1, .row 3)]
def LP_log_dupes_L4 (g : C_log_dupes) (n : Nat) : LPT A := fun ps => match ps with | [.d (.sl 104 p1), .d (.int .i64 p2), .d (.int .i64 p3), .mp 211 4 p4, .d (.sl 3 p5)] => fun K => log_dupes_L4 g n p1 p2 p3 p4 p5 (fun z0 => K (.exit 0) (mkSt 35 6 [(4, .own 3 1)] [(1, some (.row 3 z0))])) | _ => fun _ => none
noncomputable def code_117 : Code := (Tryz.f117.body).getD .skip
noncomputable def E_log_dupes (g : C_log_dupes) : Env A := mkE [(99, SS_z73z g.z73z)] [(6, [2]), (7, [3]), (8, [0]), (29, [4]), (30, [5])] [(4, ⟨[3, 4, 9, 10, 11], [(4, 3, 1)], [0], [], [], []⟩)] [(4, ⟨[4], [], [1], [], [], []⟩)] [(4, pieceOf sh_log_dupes_L4 (LP_log_dupes_L4 g g.N))] [] [] [] [] []
theorem ct_log_dupes [Fuel] : NatTab (E_log_dupes I_log_dupes).C := ct_of (P := Tryz.prog) (T := T) (.cons ok_z73z .nil) (by kernel_rfl)
noncomputable def cb_log_dupes_L4 : Code := sub [1, 1, 1, 0, 1, 0, 0] code_117
theorem s_log_dupes_L4 (g : C_log_dupes) (n : Nat) : StepOk (E_log_dupes g) g.N cb_log_dupes_L4 sh_log_dupes_L4 (LP_log_dupes_L4 g) n := by intro ps; unfold LP_log_dupes_L4; split; exact .inr fun R K => (by kernel_rfl); exact .inl fun R K => rfl
theorem lf_log_dupes_L4 [Fuel] : LoopFine (E_log_dupes I_log_dupes) NN cb_log_dupes_L4 := fine_loop sh_log_dupes_L4 (LP_log_dupes_L4 I_log_dupes) (by kernel_rfl) ct_log_dupes (cuts0 (fun _ => rfl) (by kernel_rfl)) (fun ps R K => by unfold LP_log_dupes_L4; split <;> (try unfold log_dupes_L4) <;> rfl) (s_log_dupes_L4 I_log_dupes)
theorem sm_log_dupes (g : C_log_dupes) : Same (SS_log_dupes (@log_dupes_ g)) (abody (E_log_dupes g) Tryz.f117 code_117 6 [] [.arr 3] g.N) := by intro args; unfold SS_log_dupes; split; exact .inr fun R k => (by kernel_rfl); exact .inl fun R k => rfl
theorem ok_log_dupes [Fuel] : Ok 117 (SS_log_dupes (@log_dupes _)) := okF_of std (.cons ok_z73z .nil) ⟨rfl, rfl, by kernel_rfl, rfl, rfl, rfl⟩ (sm_log_dupes I_log_dupes) (cutsL (fun _ => rfl) (.cons lf_log_dupes_L4 .nil) (by kernel_rfl)) Tryz.func117 (by kernel_rfl) (by kernel_rfl)
abbrev T_log_Dupes : Type 1 := List G_Contact → {R : Type} → (List Int → Int → Option R) → Option R
structure C_log_Dupes where
 N : Nat
 z59z : T_z59z
 log_dupes : T_log_dupes
def log_Dupes_ (g : C_log_Dupes) (a1 : List G_Contact) {R : Type} (k0 : List Int → Int → Option R) : Option R :=
 (g.z59z a1 (fun r2 => (bif (r2 != 0) then k0 [] r2 else (g.log_dupes a1 (fun r3 => k0 r3 0)))))
noncomputable def I_log_Dupes [Fuel] : C_log_Dupes := ⟨NN, @z59z _, @log_dupes _⟩
noncomputable def log_Dupes [Fuel] : T_log_Dupes := @log_Dupes_ I_log_Dupes
def SS_log_Dupes (g : T_log_Dupes) : Spec A := fun args => match args with | [.d (.sl 104 a1)] => fun k => g a1 (fun z0 z1 => k (.tup [.arr 3 z0, .d (.int .i64 z1)]) [.undef]) | _ => fun _ => none
noncomputable def code_57 : Code := (Tryz.f57.body).getD .skip
noncomputable def E_log_Dupes (g : C_log_Dupes) : Env A := mkE [(116, SS_z59z g.z59z), (117, SS_log_dupes g.log_dupes)] [(11, [0])] [] [] [] [] [] [] [] []
theorem sm_log_Dupes (g : C_log_Dupes) : Same (SS_log_Dupes (@log_Dupes_ g)) (abody (E_log_Dupes g) Tryz.f57 code_57 1 [] [.arr 3, .asis] g.N) := by intro args; unfold SS_log_Dupes; split; exact .inr fun R k => (by kernel_rfl); exact .inl fun R k => rfl
theorem ok_log_Dupes [Fuel] : Ok 57 (SS_log_Dupes (@log_Dupes _)) := okF_of std (.cons ok_z59z (.cons ok_log_dupes .nil)) ⟨rfl, rfl, by kernel_rfl, rfl, rfl, rfl⟩ (sm_log_Dupes I_log_Dupes) (cuts0 (fun _ => rfl) (by kernel_rfl)) Tryz.func57 (by kernel_rfl) (by kernel_rfl)
abbrev T_z40z : Type 1 := List Int → {R : Type} → (Int → Option R) → Option R
structure C_z40z where
 N : Nat
 kit_IsMode : T_kit_IsMode
def z40z_L4 (g : C_z40z) : Nat → List Int → List Int → Int → Int → {R : Type} → (Int → Option R) → Option R → Option R
 | 0, _, _, _, _, _, _, _ => none
 | n + 1, v2, v3, v4, v5, _, e0, e1 => (bif (decide (v5 < v4)) then (get_ v3 v5 fun x9 => (g.kit_IsMode x9 (fun r10 => (bif (!r10) then e0 4 else (bif (decide (v5 > 0)) then (get_ v2 (w64 (v5 - 1)) fun x11 => (bif (decide (x9 ≤ x11)) then e0 7 else z40z_L4 g n v2 v3 v4 (w64 (v5 + 1)) e0 e1)) else z40z_L4 g n v2 v3 v4 (w64 (v5 + 1)) e0 e1))))) else e1)
def z40z_ (g : C_z40z) (a1 : List Int) {R : Type} (k0 : Int → Option R) : Option R :=
 (bif ((a1.length : Int) == 0) then k0 8 else (z40z_L4 g g.N a1 a1 (a1.length : Int) 0 (fun e12 => k0 e12) (k0 0)))
noncomputable def I_z40z [Fuel] : C_z40z := ⟨NN, @kit_IsMode _⟩
noncomputable def z40z [Fuel] : T_z40z := @z40z_ I_z40z
def SS_z40z (g : T_z40z) : Spec A := fun args => match args with | [.d (.sl 3 a1)] => fun k => g a1 (fun z0 => k (.d (.int .i64 z0)) [.undef]) | _ => fun _ => none
def sh_z40z_L4 : SSt := mkSh 30 0 [(0, .sl 3), (8, .sl 3), (9, .int .i64), (10, .int .i64)] []
def LP_z40z_L4 (g : C_z40z) (n : Nat) : LPT A := fun ps => match ps with | [.d (.sl 3 p1), .d (.sl 3 p2), .d (.int .i64 p3), .d (.int .i64 p4)] => fun K => z40z_L4 g n p1 p2 p3 p4 (fun z0 => K .ret (mkSt 30 0 [(2, .d (.int .i64 z0))] [])) (K (.exit 0) (mkSt 30 0 [] [])) | _ => fun _ => none
noncomputable def code_106 : Code := (Tryz.f106.body).getD .skip
noncomputable def E_z40z (g : C_z40z) : Env A := mkE [(50, SS_kit_IsMode g.kit_IsMode)] [] [(4, ⟨[0, 8, 9, 10], [], [], [], [], []⟩)] [(4, ⟨[2], [], [], [], [], []⟩)] [(4, pieceOf sh_z40z_L4 (LP_z40z_L4 g g.N))] [] [] [] [] []
theorem ct_z40z [Fuel] : NatTab (E_z40z I_z40z).C := ct_of (P := Tryz.prog) (T := T) (.cons ok_kit_IsMode .nil) (by kernel_rfl)
noncomputable def cb_z40z_L4 : Code := sub [1, 1, 0, 1, 0, 0] code_106
theorem s_z40z_L4 (g : C_z40z) (n : Nat) : StepOk (E_z40z g) g.N cb_z40z_L4 sh_z40z_L4 (LP_z40z_L4 g) n := by intro ps; unfold LP_z40z_L4; split; exact .inr fun R K => (by kernel_rfl); exact .inl fun R K => rfl
theorem lf_z40z_L4 [Fuel] : LoopFine (E_z40z I_z40z) NN cb_z40z_L4 := fine_loop sh_z40z_L4 (LP_z40z_L4 I_z40z) (by kernel_rfl) ct_z40z (cuts0 (fun _ => rfl) (by kernel_rfl)) (fun ps R K => by unfold LP_z40z_L4; split <;> (try unfold z40z_L4) <;> rfl) (s_z40z_L4 I_z40z)
theorem sm_z40z (g : C_z40z) : Same (SS_z40z (@z40z_ g)) (abody (E_z40z g) Tryz.f106 code_106 0 [] [.asis] g.N) := by intro args; unfold SS_z40z; split; exact .inr fun R k => (by kernel_rfl); exact .inl fun R k => rfl
theorem ok_z40z [Fuel] : Ok 106 (SS_z40z (@z40z _)) := okF_of std (.cons ok_kit_IsMode .nil) ⟨rfl, rfl, by kernel_rfl, rfl, rfl, rfl⟩ (sm_z40z I_z40z) (cutsL (fun _ => rfl) (.cons lf_z40z_L4 .nil) (by kernel_rfl)) Tryz.func106 (by kernel_rfl) (by kernel_rfl)
abbrev T_kit_IsTime : Type 1 := G_Window → {R : Type} → (Bool → Option R) → Option R
def kit_IsTime_ (g : Nat) (a1 : G_Window) {R : Type} (k0 : Bool → Option R) : Option R :=
 (bif (decide (a1.f_From ≥ 0)) then (bif (decide (a1.f_From < a1.f_To)) then k0 (decide (a1.f_To ≤ 345686400000)) else k0 false) else k0 false)
noncomputable def kit_IsTime [Fuel] : T_kit_IsTime := @kit_IsTime_ NN
def SS_kit_IsTime (g : T_kit_IsTime) : Spec A := fun args => match args with | [.agg [.d (.int .i64 a1), .d (.int .i64 a2)]] => fun k => g ⟨a1, a2⟩ (fun z0 => k (.d (.bool z0)) [.undef]) | _ => fun _ => none
noncomputable def code_107 : Code := (Tryz.f107.body).getD .skip
noncomputable def E_kit_IsTime (g : Nat) : Env A := mkE [] [(1, [0])] [] [] [] [] [] [] [] []
theorem sm_kit_IsTime (g : Nat) : Same (SS_kit_IsTime (@kit_IsTime_ g)) (abody (E_kit_IsTime g) Tryz.f107 code_107 1 [] [.asis] g) := by intro args; unfold SS_kit_IsTime; split; exact .inr fun R k => (by kernel_rfl); exact .inl fun R k => rfl
theorem ok_kit_IsTime [Fuel] : Ok 107 (SS_kit_IsTime (@kit_IsTime _)) := okF_of std .nil ⟨rfl, rfl, by kernel_rfl, rfl, rfl, rfl⟩ (sm_kit_IsTime NN) (cuts0 (fun _ => rfl) (by kernel_rfl)) Tryz.func107 (by kernel_rfl) (by kernel_rfl)
abbrev T_z64z : Type 1 := G_Segment → G_Segment → {R : Type} → (Int → Option R) → Option R
structure C_z64z where
 N : Nat
 strings_Compare : T_strings_Compare
 z34z : T_z34z
 z35z : T_z35z
def z64z_ (g : C_z64z) (a1 a2 : G_Segment) {R : Type} (k0 : Int → Option R) : Option R :=
 (g.strings_Compare a1.f_Class a2.f_Class (fun r3 => (g.z35z a1.f_Low a2.f_Low (fun r4 => (g.z35z a1.f_High a2.f_High (fun r5 => (g.z35z a1.f_Time.f_From a2.f_Time.f_From (fun r6 => (g.z34z [r3, r4, r5, r6] (fun r7 => k0 r7))))))))))
noncomputable def I_z64z [Fuel] : C_z64z := ⟨NN, @strings_Compare _, @z34z _, @z35z _⟩
noncomputable def z64z [Fuel] : T_z64z := @z64z_ I_z64z
def SS_z64z (g : T_z64z) : Spec A := fun args => match args with | [.agg [.d (.str a1), .d (.int .i64 a2), .d (.int .i64 a3), .d (.sl 3 a4), .d (.int .i64 a5), .d (.int .i64 a6)], .agg [.d (.str a7), .d (.int .i64 a8), .d (.int .i64 a9), .d (.sl 3 a10), .d (.int .i64 a11), .d (.int .i64 a12)]] => fun k => g ⟨a1, a2, a3, a4, ⟨a5, a6⟩⟩ ⟨a7, a8, a9, a10, ⟨a11, a12⟩⟩ (fun z0 => k (.d (.int .i64 z0)) [.undef, .undef]) | _ => fun _ => none
noncomputable def code_108 : Code := (Tryz.f108.body).getD .skip
noncomputable def E_z64z (g : C_z64z) : Env A := mkE [(56, SS_strings_Compare g.strings_Compare), (77, SS_z34z g.z34z), (105, SS_z35z g.z35z)] [(2, [0]), (3, [1]), (27, [2])] [] [] [] [] [] [] [] []
theorem sm_z64z (g : C_z64z) : Same (SS_z64z (@z64z_ g)) (abody (E_z64z g) Tryz.f108 code_108 3 [] [.asis] g.N) := by intro args; unfold SS_z64z; split; exact .inr fun R k => (by kernel_rfl); exact .inl fun R k => rfl
theorem ok_z64z [Fuel] : Ok 108 (SS_z64z (@z64z _)) := okF_of std (.cons ok_strings_Compare (.cons ok_z34z (.cons ok_z35z .nil))) ⟨rfl, rfl, by kernel_rfl, rfl, rfl, rfl⟩ (sm_z64z I_z64z) (cuts0 (fun _ => rfl) (by kernel_rfl)) Tryz.func108 (by kernel_rfl) (by kernel_rfl)
end Go.Am
