/- The functions of the program as Lean functions, each shown to be what the code computes, part 7. No condition: lemmas for the claim. -/
import Derived.Test.YtonhhbcacemaiaaGreatDoorF0
import Derived.Test.YtonhhbcacemaiaaGreatDoorFSh
import Derived.Test.YtonhhbcacemaiaaGreatDoorF6
set_option linter.unusedVariables false
set_option maxRecDepth 100000
namespace Go.Am
open Go Go.Proofs
abbrev T_z27z : Type 1 := List G_Deed → Int → {R : Type} → (List Int → Option R) → Option R
structure C_z27z where
 N : Nat
 z79z : T_z79z
 z50z : T_z50z
def z27z_L6 (g : C_z27z) : Nat → List G_Deed → Int → List (G_net_own × Bool) → List Int → {R : Type} → (Int → List (G_net_own × Bool) → List Int → Option R) → Option R
 | 0, y0, y1, y2, y3, _, e0 => e0 y1 y2 y3
 | n + 1, l7, v4, v5, v6, _, e0 => (match l7[n]? with | none => none | some x8 => (bif (decide (x8.f_At > v4)) then z27z_L6 g n l7 v4 v5 v6 e0 else (bif ((mget_net_own_bool (⟨x8.f_Site, x8.f_No⟩ : G_net_own) v5).getD false) then z27z_L6 g n l7 v4 v5 v6 e0 else (bif (decide ((v6.length + [(n : Int)].length) * 8 ≤ roomBytes')) then (bif (x8.f_Kind == 5) then z27z_L6 g n l7 v4 (mset_net_own_bool (⟨x8.f_Of, x8.f_Other⟩ : G_net_own) true v5) (v6 ++ [(n : Int)]) e0 else z27z_L6 g n l7 v4 v5 (v6 ++ [(n : Int)]) e0) else none))))
noncomputable def raw_z27z (g : C_z27z) (a1 : List G_Deed) (a2 : Int) {R : Type} (k0 : List Int → Option R) : Option R :=
 (g.z79z a1 (fun r3 => (bif decide (r3.length < 4611686018427387904) then (z27z_L6 g r3.length r3 a2 [] [] (fun e9 e10 e11 => (g.z50z e11 (fun r12 => k0 r12)))) else none)))
def dec0_z27z (p : IV A × List (IV A)) : Option ((List Int)) := match p with | (.arr 3 b1, [.undef, .undef]) => some (b1) | _ => none
def inj0_z27z (q : (List Int)) : IV A × List (IV A) := (.arr 3 q, [.undef, .undef])
theorem hi0_z27z (p : IV A × List (IV A)) (q : (List Int)) (h : dec0_z27z p = some q) : p = inj0_z27z q := by unfold dec0_z27z at h; split at h; (cases h; rfl); cases h
noncomputable def z27z_ (g : C_z27z) (a1 : List G_Deed) (a2 : Int) {R : Type} (k0 : List Int → Option R) : Option R :=
 (raw_z27z g a1 a2 (fun z0 => some (inj0_z27z (z0)))).bind fun p => (decK dec0_z27z p (fun q => k0 q) none)
noncomputable def I_z27z [Fuel] : C_z27z := ⟨NN, @z79z _, @z50z _⟩
noncomputable def z27z [Fuel] : T_z27z := @z27z_ I_z27z
def SS_z27z (g : T_z27z) : Spec A := fun args => match args with | [.d (.sl 117 a1), .d (.int .i64 a2)] => fun k => g a1 a2 (fun z0 => k (.arr 3 z0) [.undef, .undef]) | _ => fun _ => none
def sh_z27z_L6 : SSt := mkSh 43 9 [(3, .ptr 0 0), (5, .ptr 2 0), (6, .ptr 3 0)] [(0, .box [.int .i64]), (1, .mp 256 4), (2, .box [.mp 1]), (3, .box [.own 3 5]), (5, .row 3)]
abbrev bw_z27z_L6 : Bw := ⟨297, 118, 117, 3, 4⟩
def LP_z27z_L6 (g : C_z27z) (n : Nat) (l : List (A (bw_z27z_L6).tE)) : LPT A := fun ps => match ps with | [.d (.int .i64 p1), .mp 256 4 p2, .d (.sl 3 p3)] => fun K => z27z_L6 g n l p1 p2 p3 (fun z0 z1 z2 => K .normal (mkSt 43 9 [(3, .ptr 0 0), (5, .ptr 2 0), (6, .ptr 3 0)] [(0, some (.box [.d (.int .i64 z0)])), (1, some (.mp 256 4 z1)), (2, some (.box [.mp 1])), (3, some (.box [.own 3 5])), (5, some (.row 3 z2))])) | _ => fun _ => none
noncomputable def code_219 : Code := (Tryz.f219.body).getD .skip
noncomputable def E_z27z (g : C_z27z) : Env A := mkE [(271, SS_z79z g.z79z), (272, SS_z50z g.z50z)] [(3, [0]), (5, [2]), (6, [3]), (8, [6]), (9, [1]), (11, [4]), (29, [7]), (30, [8])] [(6, ⟨[3, 5, 6], [], [0, 1, 2, 3], [(3, 0, 3, 5)], [], []⟩)] [(6, ⟨[3, 5, 6], [], [0, 1, 2, 3], [], [], []⟩)] [] [] [] [] [(272, 0)] []
noncomputable def CB_z27z (g : C_z27z) : Nat → Option (Nat → PieceB A (bw_z27z_L6).tE) := fun i => List.lookup i [(0, pieceB (bw_z27z_L6).tE sh_z27z_L6 (LP_z27z_L6 g))]
def kp_z27z : Nat → List Nat := fun i => (List.lookup i [(0, [3, 5, 6])]).getD []
theorem ct_z27z [Fuel] : NatTab (E_z27z I_z27z).C := ct_of (P := Tryz.prog) (T := T) (.cons ok_z79z (.cons ok_z50z .nil)) (by kernel_rfl)
noncomputable def bwp_z27z_L6 : BwP := (bwP Tryz.f297.body).get (by kernel_rfl)
theorem bwf_z27z_L6 : BwFine Tryz.prog T bw_z27z_L6 := ⟨bwOk_of (fn := Tryz.f297) Tryz.func297 bwp_z27z_L6 (by kernel_rfl) (by kernel_rfl) (by kernel_rfl) (by kernel_rfl) (by kernel_rfl) (by kernel_rfl) (by kernel_rfl) (by kernel_rfl) (by kernel_rfl), enters_of (fn := Tryz.f297) Tryz.func297 (by kernel_rfl) (by kernel_rfl), by kernel_rfl, by kernel_rfl, fun x => by kernel_rfl⟩
noncomputable def rp_z27z_L6 : RfP := (rfOf (sub [1, 1, 1, 0] code_219)).get (by kernel_rfl)
theorem z_z27z_L6 (g : C_z27z) : BZeroOk (bw_z27z_L6).tE sh_z27z_L6 (LP_z27z_L6 g) := by intro xs ps; unfold LP_z27z_L6; split; exact .inr fun R K => (by kernel_rfl); exact .inl fun R K => rfl
theorem s_z27z_L6 (g : C_z27z) (i : Nat) : BStepOk (E_z27z g) g.N (kp_z27z (rp_z27z_L6).B) rp_z27z_L6 (bw_z27z_L6).tE sh_z27z_L6 (LP_z27z_L6 g) i := by intro xs ps; unfold LP_z27z_L6; split; exact .inr fun R K => (by kernel_rfl); exact .inl fun R K => rfl
theorem lf_z27z_L6 [Fuel] : BOk (E_z27z I_z27z) bw_z27z_L6 (CB_z27z I_z27z) kp_z27z NN rp_z27z_L6 := fine_back sh_z27z_L6 (LP_z27z_L6 I_z27z) (by kernel_rfl) (cuts0 (fun _ => rfl) (by kernel_rfl)) (cuts0 (fun _ => rfl) (by kernel_rfl)) (z_z27z_L6 I_z27z) (s_z27z_L6 I_z27z)
theorem sm_z27z (g : C_z27z) : Same (SS_z27z (@raw_z27z g)) (abodyB (E_z27z g) bw_z27z_L6 (CB_z27z g) kp_z27z Tryz.f219 code_219 9 [] [.arr 3] g.N) := by intro args; unfold SS_z27z; split; exact .inr fun R k => (by kernel_rfl); exact .inl fun R k => rfl
theorem wh_z27z (g : C_z27z) : Whole (SS_z27z (@z27z_ g)) (SS_z27z (@raw_z27z g)) := by
 intro args R k res h
 unfold SS_z27z at h
 split at h
 ·obtain ⟨p, hp, h⟩ := Option.bind_eq_some_iff.1 h
  exact ⟨p, hp, (decK_hc (inj := inj0_z27z) hi0_z27z (fun h => (by cases h)) h)⟩
 ·cases h
theorem nx_z27z (g : C_z27z) : NatSpec (SS_z27z (@z27z_ g)) := by
 intro args R k
 unfold SS_z27z
 split
 ·unfold z27z_
  rw [Option.bind_assoc]
  exact congrArg (Option.bind _) (funext fun p => (decK_na (inj := inj0_z27z) rfl))
 ·rfl
theorem ok_z27z [Fuel] : Ok 219 (SS_z27z (@z27z _)) := okB_of std (.cons ok_z79z (.cons ok_z50z .nil)) ⟨rfl, rfl, by kernel_rfl, rfl, rfl, rfl⟩ bwf_z27z_L6 (sm_z27z I_z27z) (wh_z27z I_z27z) (nx_z27z I_z27z) (cutsB (fun _ => rfl) .nil (.cons lf_z27z_L6 .nil) (by kernel_rfl) (by kernel_rfl)) Tryz.func219 (by kernel_rfl) (by kernel_rfl)
abbrev T_net_key : Type 1 := G_Contact → {R : Type} → (G_Contact → Option R) → Option R
def net_key_ (g : Nat) (a1 : G_Contact) {R : Type} (k0 : G_Contact → Option R) : Option R :=
 k0 (⟨a1.f_At, a1.f_Mode, a1.f_Band, a1.f_Call, 0, 0, [], []⟩ : G_Contact)
noncomputable def net_key [Fuel] : T_net_key := @net_key_ NN
def SS_net_key (g : T_net_key) : Spec A := fun args => match args with | [.agg [.d (.int .i64 a1), .d (.int .i64 a2), .d (.str a3), .d (.str a4), .d (.int .i64 a5), .d (.int .i64 a6), .d (.str a7), .d (.str a8)]] => fun k => g ⟨a1, a2, a3, a4, a5, a6, a7, a8⟩ (fun z0 => k (.agg [.d (.int .i64 z0.f_At), .d (.int .i64 z0.f_Mode), .d (.str z0.f_Band), .d (.str z0.f_Call), .d (.int .i64 z0.f_Sent), .d (.int .i64 z0.f_Heard), .d (.str z0.f_Gave), .d (.str z0.f_Got)]) [.undef]) | _ => fun _ => none
noncomputable def code_220 : Code := (Tryz.f220.body).getD .skip
noncomputable def E_net_key (g : Nat) : Env A := mkE [] [(1, [0]), (2, [1])] [] [] [] [] [] [] [] []
theorem sm_net_key (g : Nat) : Same (SS_net_key (@net_key_ g)) (abody (E_net_key g) Tryz.f220 code_220 2 [] [.asis] g) := by intro args; unfold SS_net_key; split; exact .inr fun R k => (by kernel_rfl); exact .inl fun R k => rfl
theorem ok_net_key [Fuel] : Ok 220 (SS_net_key (@net_key _)) := okF_of std .nil ⟨rfl, rfl, by kernel_rfl, rfl, rfl, rfl⟩ (sm_net_key NN) (cuts0 (fun _ => rfl) (by kernel_rfl)) Tryz.func220 (by kernel_rfl) (by kernel_rfl)
abbrev T_z45z : Type 1 := List G_Contact → {R : Type} → (List G_Contact → Option R) → Option R
noncomputable def z45z [Fuel] : T_z45z := @X_sortf G_Contact (@z55z _)
def SS_z45z (g : T_z45z) : Spec A := fun args => match args with | [.arr 104 a1, .fn 165 []] => fun k => g a1 (fun z => k (.tup []) [.arr 104 z, .fn 165 []]) | _ => fun _ => none
theorem h1_z45z [Fuel] (xs : List (A 104)) (R : Type) (k : IV A → List (IV A) → Option R) : SS_z45z (@z45z _) [.arr 104 xs, .fn 165 []] k = X_sortf (α := A 104) (@z55z _) xs (fun z => k (.tup []) [.arr 104 z, .fn 165 []]) := by kernel_rfl
theorem h2_z45z [Fuel] (args : List (IV A)) (R : Type) (k : IV A → List (IV A) → Option R) (h : ∀ xs : List (A 104), args ≠ [.arr 104 xs, .fn 165 []]) : SS_z45z (@z45z _) args k = none := by unfold SS_z45z; split; exact absurd rfl (h _); rfl
theorem hc_z45z [Fuel] (x y : A 104) (R : Type) (k : Int → Option R) : callOf T (SS_z55z (@z55z _)) 104 x y k = @z55z _ x y R k := by kernel_rfl
theorem hs_z45z (x : G_Contact) : (enc_e104 x).all scal = true := rfl
theorem ok_z45z [Fuel] : Ok 221 (SS_z45z (@z45z _)) := ⟨sortf_sound (tyOk Tryz.prog) (e := 104) Tryz.sortf221 Tryz.isAgg104 Tryz.sizeOf104 (fun x d hd => List.all_eq_true.1 (hs_z45z x) d hd) hc_z45z okd_z55z.fs okd_z55z.en h1_z45z h2_z45z, sortf_na (e := 104) h1_z45z h2_z45z, enters_of (fn := Tryz.f221) Tryz.func221 (by kernel_rfl) (by kernel_rfl)⟩
abbrev T_z37z : Type 1 := List G_Deed → Int → {R : Type} → (Int → Option R) → (List G_Deed → List G_Contact → List (List UInt8) → List Int → List (G_net_own × Bool) → Int → Option R) → Option R
structure C_z37z where
 N : Nat
 z27z : T_z27z
 net_key : T_net_key
 z45z : T_z45z
def z37z_L4 (g : C_z37z) : Nat → List G_Deed → Int → Int → List (G_net_own × Bool) → List (G_Contact × G_Deed) → List Int → List G_Deed → List G_Contact → List (List UInt8) → List Int → {R : Type} → (List (G_net_own × Bool) → List (G_Contact × G_Deed) → List G_Deed → List G_Contact → List (List UInt8) → List Int → Option R) → Option R
 | 0, _, _, _, _, _, _, _, _, _, _, _, _ => none
 | n + 1, v4, v5, v6, v7, v8, v9, v10, v11, v12, v13, _, e0 => (bif (decide (v6 < v5)) then (inr v9 v6 (at_ v9 v6 fun x26 => (get_ v4 x26 fun x27 => (bif (decide ((v10.length + [x27].length) * 176 ≤ roomBytes')) then (bif (x27.f_Kind == 3) then (bif (x27.f_Kind != 1) then z37z_L4 g n v4 v5 (w64 (v6 + 1)) (mset_net_own_bool (⟨x27.f_Site, x27.f_Contact.f_Sent⟩ : G_net_own) true v7) v8 v9 (v10 ++ [x27]) v11 v12 v13 e0 else (g.net_key x27.f_Contact (fun r28 => (bif (mget_Contact_Deed r28 v8).isSome then (bif (decide ((v13.length + [x26].length) * 8 ≤ roomBytes')) then z37z_L4 g n v4 v5 (w64 (v6 + 1)) (mset_net_own_bool (⟨x27.f_Site, x27.f_Contact.f_Sent⟩ : G_net_own) true v7) v8 v9 (v10 ++ [x27]) v11 v12 (v13 ++ [x26]) e0 else none) else (g.net_key x27.f_Contact (fun r29 => (bif (decide ((v11.length + [x27.f_Contact].length) * 96 ≤ roomBytes')) then z37z_L4 g n v4 v5 (w64 (v6 + 1)) (mset_net_own_bool (⟨x27.f_Site, x27.f_Contact.f_Sent⟩ : G_net_own) true v7) (mset_Contact_Deed r29 x27 v8) v9 (v10 ++ [x27]) (v11 ++ [x27.f_Contact]) v12 v13 e0 else none))))))) else (bif (x27.f_Kind == 4) then (bif (x27.f_Kind == 4) then (bif (x27.f_Kind != 1) then z37z_L4 g n v4 v5 (w64 (v6 + 1)) (mdel_net_own_bool (⟨x27.f_Site, x27.f_Contact.f_Sent⟩ : G_net_own) v7) v8 v9 (v10 ++ [x27]) v11 v12 v13 e0 else (g.net_key x27.f_Contact (fun r30 => (bif (mget_Contact_Deed r30 v8).isSome then (bif (decide ((v13.length + [x26].length) * 8 ≤ roomBytes')) then z37z_L4 g n v4 v5 (w64 (v6 + 1)) (mdel_net_own_bool (⟨x27.f_Site, x27.f_Contact.f_Sent⟩ : G_net_own) v7) v8 v9 (v10 ++ [x27]) v11 v12 (v13 ++ [x26]) e0 else none) else (g.net_key x27.f_Contact (fun r31 => (bif (decide ((v11.length + [x27.f_Contact].length) * 96 ≤ roomBytes')) then z37z_L4 g n v4 v5 (w64 (v6 + 1)) (mdel_net_own_bool (⟨x27.f_Site, x27.f_Contact.f_Sent⟩ : G_net_own) v7) (mset_Contact_Deed r31 x27 v8) v9 (v10 ++ [x27]) (v11 ++ [x27.f_Contact]) v12 v13 e0 else none))))))) else (bif (x27.f_Kind != 1) then z37z_L4 g n v4 v5 (w64 (v6 + 1)) v7 v8 v9 (v10 ++ [x27]) v11 v12 v13 e0 else (g.net_key x27.f_Contact (fun r32 => (bif (mget_Contact_Deed r32 v8).isSome then (bif (decide ((v13.length + [x26].length) * 8 ≤ roomBytes')) then z37z_L4 g n v4 v5 (w64 (v6 + 1)) v7 v8 v9 (v10 ++ [x27]) v11 v12 (v13 ++ [x26]) e0 else none) else (g.net_key x27.f_Contact (fun r33 => (bif (decide ((v11.length + [x27.f_Contact].length) * 96 ≤ roomBytes')) then z37z_L4 g n v4 v5 (w64 (v6 + 1)) v7 (mset_Contact_Deed r33 x27 v8) v9 (v10 ++ [x27]) (v11 ++ [x27.f_Contact]) v12 v13 e0 else none)))))))) else (bif (x27.f_Kind == 1) then (bif (x27.f_Kind != 1) then z37z_L4 g n v4 v5 (w64 (v6 + 1)) (mdel_net_own_bool (⟨x27.f_Site, x27.f_Contact.f_Sent⟩ : G_net_own) v7) v8 v9 (v10 ++ [x27]) v11 v12 v13 e0 else (g.net_key x27.f_Contact (fun r34 => (bif (mget_Contact_Deed r34 v8).isSome then (bif (decide ((v13.length + [x26].length) * 8 ≤ roomBytes')) then z37z_L4 g n v4 v5 (w64 (v6 + 1)) (mdel_net_own_bool (⟨x27.f_Site, x27.f_Contact.f_Sent⟩ : G_net_own) v7) v8 v9 (v10 ++ [x27]) v11 v12 (v13 ++ [x26]) e0 else none) else (g.net_key x27.f_Contact (fun r35 => (bif (decide ((v11.length + [x27.f_Contact].length) * 96 ≤ roomBytes')) then z37z_L4 g n v4 v5 (w64 (v6 + 1)) (mdel_net_own_bool (⟨x27.f_Site, x27.f_Contact.f_Sent⟩ : G_net_own) v7) (mset_Contact_Deed r35 x27 v8) v9 (v10 ++ [x27]) (v11 ++ [x27.f_Contact]) v12 v13 e0 else none))))))) else (bif (x27.f_Kind != 1) then z37z_L4 g n v4 v5 (w64 (v6 + 1)) v7 v8 v9 (v10 ++ [x27]) v11 v12 v13 e0 else (g.net_key x27.f_Contact (fun r36 => (bif (mget_Contact_Deed r36 v8).isSome then (bif (decide ((v13.length + [x26].length) * 8 ≤ roomBytes')) then z37z_L4 g n v4 v5 (w64 (v6 + 1)) v7 v8 v9 (v10 ++ [x27]) v11 v12 (v13 ++ [x26]) e0 else none) else (g.net_key x27.f_Contact (fun r37 => (bif (decide ((v11.length + [x27.f_Contact].length) * 96 ≤ roomBytes')) then z37z_L4 g n v4 v5 (w64 (v6 + 1)) v7 (mset_Contact_Deed r37 x27 v8) v9 (v10 ++ [x27]) (v11 ++ [x27.f_Contact]) v12 v13 e0 else none)))))))))) else none)))) else e0 v7 v8 v10 v11 v12 v13)
def z37z_L25 (g : C_z37z) : Nat → Int → Int → List (G_net_own × Bool) → List (G_Contact × G_Deed) → List G_Deed → List G_Contact → List (List UInt8) → List Int → {R : Type} → (List (G_net_own × Bool) → List G_Deed → List G_Contact → List (List UInt8) → List Int → Option R) → Option R
 | 0, _, _, _, _, _, _, _, _, _, _ => none
 | n + 1, v45, v46, v47, v48, v49, v50, v51, v52, _, e0 => (bif (decide (v46 < v45)) then (inr v50 v46 (at_ v50 v46 fun x55 => (g.net_key x55 (fun r56 => (bif (decide ((v51.length + [((mget_Contact_Deed r56 v48).getD (⟨[], 0, 0, 0, (⟨0, 0, [], [], 0, 0, [], []⟩ : G_Contact), [], [], 0⟩ : G_Deed)).f_Site].length) * 16 ≤ roomBytes')) then z37z_L25 g n v45 (w64 (v46 + 1)) v47 v48 v49 v50 (v51 ++ [((mget_Contact_Deed r56 v48).getD (⟨[], 0, 0, 0, (⟨0, 0, [], [], 0, 0, [], []⟩ : G_Contact), [], [], 0⟩ : G_Deed)).f_Site]) v52 e0 else none))))) else e0 v47 v49 v50 v51 v52)
def z37z_ (g : C_z37z) (a1 : List G_Deed) (a2 : Int) {R : Type} (k0 : Int → Option R) (k1 : List G_Deed → List G_Contact → List (List UInt8) → List Int → List (G_net_own × Bool) → Int → Option R) : Option R :=
 (g.z27z a1 a2 (fun r3 => (z37z_L4 g g.N a1 (r3.length : Int) 0 [] [] r3 [] [] [] [] (fun e38 e39 e40 e41 e42 e43 => (bif (decide ((e41.length : Int) > 2000)) then k0 2 else (g.z45z e41 (fun r44 => (z37z_L25 g g.N (r44.length : Int) 0 e38 e39 e40 r44 e42 e43 (fun e57 e58 e59 e60 e61 => k1 e58 e59 e60 e61 e57 0)))))))))
noncomputable def I_z37z [Fuel] : C_z37z := ⟨NN, @z27z _, @net_key _, @z45z _⟩
noncomputable def z37z [Fuel] : T_z37z := @z37z_ I_z37z
def SS_z37z (g : T_z37z) : Spec A := fun args => match args with | [.d (.sl 117 a1), .d (.int .i64 a2)] => fun k => g a1 a2 (fun z0 => k (.tup [.d (.lit (.pointer none)), .d (.int .i64 z0)]) [.undef, .undef]) (fun z0 z1 z2 z3 z4 z5 => k (.tup [.box [.arr 117 z0, .arr 104 z1, .arr 9 z2, .arr 3 z3, .mp 256 4 z4], .d (.int .i64 z5)]) [.undef, .undef]) | _ => fun _ => none
def sh_z37z_L4 : SSt := mkSh 143 23 [(0, .sl 117), (6, .ptr 1 0), (7, .mp 2), (21, .own 3 3), (22, .int .i64), (23, .int .i64)] [(0, .mp 256 4), (1, .box [.own 117 4, .own 104 5, .own 9 6, .own 3 7, .mp 0]), (2, .mp 104 117), (3, .row 3), (4, .row 117), (5, .row 104), (6, .row 9), (7, .row 3)]
def LP_z37z_L4 (g : C_z37z) (n : Nat) : LPT A := fun ps => match ps with | [.d (.sl 117 p1), .d (.int .i64 p2), .d (.int .i64 p3), .mp 256 4 p4, .mp 104 117 p5, .d (.sl 3 p6), .d (.sl 117 p7), .d (.sl 104 p8), .d (.sl 9 p9), .d (.sl 3 p10)] => fun K => z37z_L4 g n p1 p2 p3 p4 p5 p6 p7 p8 p9 p10 (fun z0 z1 z2 z3 z4 z5 => K (.exit 0) (mkSt 143 23 [(6, .ptr 1 0), (7, .mp 2)] [(0, some (.mp 256 4 z0)), (1, some (.box [.own 117 4, .own 104 5, .own 9 6, .own 3 7, .mp 0])), (2, some (.mp 104 117 z1)), (4, some (.row 117 z2)), (5, some (.row 104 z3)), (6, some (.row 9 z4)), (7, some (.row 3 z5))])) | _ => fun _ => none
def sh_z37z_L25 : SSt := mkSh 143 23 [(6, .ptr 1 0), (7, .mp 2), (121, .own 104 17), (122, .int .i64), (123, .int .i64)] [(0, .mp 256 4), (1, .box [.own 117 16, .own 104 17, .own 9 18, .own 3 19, .mp 0]), (2, .mp 104 117), (16, .row 117), (17, .row 104), (18, .row 9), (19, .row 3)]
def LP_z37z_L25 (g : C_z37z) (n : Nat) : LPT A := fun ps => match ps with | [.d (.int .i64 p1), .d (.int .i64 p2), .mp 256 4 p3, .mp 104 117 p4, .d (.sl 117 p5), .d (.sl 104 p6), .d (.sl 9 p7), .d (.sl 3 p8)] => fun K => z37z_L25 g n p1 p2 p3 p4 p5 p6 p7 p8 (fun z0 z1 z2 z3 z4 => K (.exit 3) (mkSt 143 23 [(6, .ptr 1 0)] [(0, some (.mp 256 4 z0)), (1, some (.box [.own 117 16, .own 104 17, .own 9 18, .own 3 19, .mp 0])), (16, some (.row 117 z1)), (17, some (.row 104 z2)), (18, some (.row 9 z3)), (19, some (.row 3 z4))])) | _ => fun _ => none
noncomputable def code_170 : Code := (Tryz.f170.body).getD .skip
noncomputable def E_z37z (g : C_z37z) : Env A := mkE [(219, SS_z27z g.z27z), (220, SS_net_key g.net_key), (221, SS_z45z g.z45z)] [(10, [8]), (11, [11]), (14, [20]), (15, [0]), (17, [1]), (18, [2]), (21, [3]), (37, [9]), (38, [10]), (86, [12]), (87, [13]), (102, [14]), (103, [15]), (137, [21]), (138, [22])] [(4, ⟨[0, 6, 7, 21, 22, 23], [], [0, 1, 2, 3], [(1, 0, 117, 4), (1, 1, 104, 5), (1, 2, 9, 6), (1, 3, 3, 7)], [], []⟩), (25, ⟨[6, 7, 121, 122, 123], [], [0, 1, 2], [(1, 0, 117, 16), (1, 1, 104, 17), (1, 2, 9, 18), (1, 3, 3, 19)], [], []⟩)] [(4, ⟨[6, 7], [], [0, 1, 2, 4, 5, 6, 7], [], [], []⟩), (25, ⟨[6], [], [0, 1, 16, 17, 18, 19], [], [], []⟩)] [(4, pieceOf sh_z37z_L4 (LP_z37z_L4 g g.N)), (25, pieceOf sh_z37z_L25 (LP_z37z_L25 g g.N))] [] [] [] [(221, 0)] []
theorem ct_z37z [Fuel] : NatTab (E_z37z I_z37z).C := ct_of (P := Tryz.prog) (T := T) (.cons ok_z27z (.cons ok_net_key (.cons ok_z45z .nil))) (by kernel_rfl)
noncomputable def cb_z37z_L4 : Code := sub [1, 1, 1, 0, 1, 0, 0] code_170
theorem s_z37z_L4 (g : C_z37z) (n : Nat) : StepOk (E_z37z g) g.N cb_z37z_L4 sh_z37z_L4 (LP_z37z_L4 g) n := by intro ps; unfold LP_z37z_L4; split; exact .inr fun R K => (by kernel_rfl); exact .inl fun R K => rfl
theorem lf_z37z_L4 [Fuel] : LoopFine (E_z37z I_z37z) NN cb_z37z_L4 := fine_loop sh_z37z_L4 (LP_z37z_L4 I_z37z) (by kernel_rfl) ct_z37z (cuts0 (fun _ => rfl) (by kernel_rfl)) (fun ps R K => by unfold LP_z37z_L4; split <;> (try unfold z37z_L4) <;> rfl) (s_z37z_L4 I_z37z)
noncomputable def cb_z37z_L25 : Code := sub [1, 1, 1, 1, 1, 1, 0, 1, 0, 0] code_170
theorem s_z37z_L25 (g : C_z37z) (n : Nat) : StepOk (E_z37z g) g.N cb_z37z_L25 sh_z37z_L25 (LP_z37z_L25 g) n := by intro ps; unfold LP_z37z_L25; split; exact .inr fun R K => (by kernel_rfl); exact .inl fun R K => rfl
theorem lf_z37z_L25 [Fuel] : LoopFine (E_z37z I_z37z) NN cb_z37z_L25 := fine_loop sh_z37z_L25 (LP_z37z_L25 I_z37z) (by kernel_rfl) ct_z37z (cuts0 (fun _ => rfl) (by kernel_rfl)) (fun ps R K => by unfold LP_z37z_L25; split <;> (try unfold z37z_L25) <;> rfl) (s_z37z_L25 I_z37z)
theorem sm_z37z (g : C_z37z) : Same (SS_z37z (@z37z_ g)) (abody (E_z37z g) Tryz.f170 code_170 23 [] [.asis, .asis] g.N) := by intro args; unfold SS_z37z; split; exact .inr fun R k => (by kernel_rfl); exact .inl fun R k => rfl
theorem ok_z37z [Fuel] : Ok 170 (SS_z37z (@z37z _)) := okF_of std (.cons ok_z27z (.cons ok_net_key (.cons ok_z45z .nil))) ⟨rfl, rfl, by kernel_rfl, rfl, rfl, rfl⟩ (sm_z37z I_z37z) (cutsL (fun _ => rfl) (.cons lf_z37z_L4 (.cons lf_z37z_L25 .nil)) (by kernel_rfl)) Tryz.func170 (by kernel_rfl) (by kernel_rfl)
abbrev T_z80z : Type 1 := List G_Deed → Int → {R : Type} → (Int → Option R) → (List G_Deed → List G_Contact → List (List UInt8) → List Int → List (G_net_own × Bool) → Int → Option R) → Option R
structure C_z80z where
 N : Nat
 z84z : T_z84z
 z37z : T_z37z
def z80z_ (g : C_z80z) (a1 : List G_Deed) (a2 : Int) {R : Type} (k0 : Int → Option R) (k1 : List G_Deed → List G_Contact → List (List UInt8) → List Int → List (G_net_own × Bool) → Int → Option R) : Option R :=
 (g.z84z a1 a2 (fun r3 => (bif (r3 != 0) then k0 r3 else (g.z37z a1 a2 (fun r4 => k0 r4) (fun r5 r6 r7 r8 r9 r10 => k1 r5 r6 r7 r8 r9 r10)))))
noncomputable def I_z80z [Fuel] : C_z80z := ⟨NN, @z84z _, @z37z _⟩
noncomputable def z80z [Fuel] : T_z80z := @z80z_ I_z80z
def SS_z80z (g : T_z80z) : Spec A := fun args => match args with | [.d (.sl 117 a1), .d (.int .i64 a2)] => fun k => g a1 a2 (fun z0 => k (.tup [.d (.lit (.pointer none)), .d (.int .i64 z0)]) [.undef, .undef]) (fun z0 z1 z2 z3 z4 z5 => k (.tup [.box [.arr 117 z0, .arr 104 z1, .arr 9 z2, .arr 3 z3, .mp 256 4 z4], .d (.int .i64 z5)]) [.undef, .undef]) | _ => fun _ => none
noncomputable def code_120 : Code := (Tryz.f120.body).getD .skip
noncomputable def E_z80z (g : C_z80z) : Env A := mkE [(169, SS_z84z g.z84z), (170, SS_z37z g.z37z)] [(15, [0, 1, 2, 3, 4, 5])] [] [] [] [] [] [] [] []
theorem sm_z80z (g : C_z80z) : Same (SS_z80z (@z80z_ g)) (abody (E_z80z g) Tryz.f120 code_120 6 [] [.asis, .asis] g.N) := by intro args; unfold SS_z80z; split; exact .inr fun R k => (by kernel_rfl); exact .inl fun R k => rfl
theorem ok_z80z [Fuel] : Ok 120 (SS_z80z (@z80z _)) := okF_of std (.cons ok_z84z (.cons ok_z37z .nil)) ⟨rfl, rfl, by kernel_rfl, rfl, rfl, rfl⟩ (sm_z80z I_z80z) (cuts0 (fun _ => rfl) (by kernel_rfl)) Tryz.func120 (by kernel_rfl) (by kernel_rfl)
abbrev T_z81z : Type 1 := {R : Type} → Option R
def z81z_ (g : Nat)  {R : Type}  : Option R :=
 none
noncomputable def z81z [Fuel] : T_z81z := @z81z_ NN
def SS_z81z (g : T_z81z) : Spec A := fun args => match args with | [.d (.lit (.pointer none))] => fun k => g | _ => fun _ => none
noncomputable def code_171 : Code := (Tryz.f171.body).getD .skip
noncomputable def E_z81z (g : Nat) : Env A := mkE [] [(6, [0])] [] [] [] [] [] [] [] []
noncomputable def cb_z81z_L3 : Code := sub [1, 1, 0, 1, 0, 0] code_171
theorem lf_z81z_L3 [Fuel] : LoopFine (E_z81z NN) NN cb_z81z_L3 := no_loop (by kernel_rfl)
theorem sm_z81z (g : Nat) : Same (SS_z81z (@z81z_ g)) (abody (E_z81z g) Tryz.f171 code_171 1 [] [.asis] g) := by intro args; unfold SS_z81z; split; exact .inr fun R k => (by kernel_rfl); exact .inl fun R k => rfl
theorem ok_z81z [Fuel] : Ok 171 (SS_z81z (@z81z _)) := okF_of std .nil ⟨rfl, rfl, by kernel_rfl, rfl, rfl, rfl⟩ (sm_z81z NN) (cutsL (fun _ => rfl) (.cons lf_z81z_L3 .nil) (by kernel_rfl)) Tryz.func171 (by kernel_rfl) (by kernel_rfl)
abbrev T_z69z : Type 1 := {R : Type} → Option R
structure C_z69z where
 N : Nat
 z81z : T_z81z
def z69z_ (g : C_z69z)  {R : Type}  : Option R :=
 (g.z81z)
noncomputable def I_z69z [Fuel] : C_z69z := ⟨NN, @z81z _⟩
noncomputable def z69z [Fuel] : T_z69z := @z69z_ I_z69z
def SS_z69z (g : T_z69z) : Spec A := fun args => match args with | [.d (.lit (.pointer none))] => fun k => g | _ => fun _ => none
noncomputable def code_121 : Code := (Tryz.f121.body).getD .skip
noncomputable def E_z69z (g : C_z69z) : Env A := mkE [(171, SS_z81z g.z81z)] [] [] [] [] [] [] [] [] []
noncomputable def cb_z69z_L3 : Code := sub [1, 1, 0, 1, 0, 0] code_121
theorem lf_z69z_L3 [Fuel] : LoopFine (E_z69z I_z69z) NN cb_z69z_L3 := no_loop (by kernel_rfl)
theorem sm_z69z (g : C_z69z) : Same (SS_z69z (@z69z_ g)) (abody (E_z69z g) Tryz.f121 code_121 0 [] [.asis, .asis] g.N) := by intro args; unfold SS_z69z; split; exact .inr fun R k => (by kernel_rfl); exact .inl fun R k => rfl
theorem ok_z69z [Fuel] : Ok 121 (SS_z69z (@z69z _)) := okF_of std (.cons ok_z81z .nil) ⟨rfl, rfl, by kernel_rfl, rfl, rfl, rfl⟩ (sm_z69z I_z69z) (cutsL (fun _ => rfl) (.cons lf_z69z_L3 .nil) (by kernel_rfl)) Tryz.func121 (by kernel_rfl) (by kernel_rfl)
abbrev T_z43z : Type 1 := List G_Deed → List G_Contact → List (List UInt8) → List Int → List (G_net_own × Bool) → {R : Type} → (List (Int × Int) → List G_Deed → List G_Contact → List (List UInt8) → List Int → List (G_net_own × Bool) → Option R) → Option R
def z43z_L3 (g : Nat) : Nat → Int → Int → List (G_net_own × Bool) → List (Int × Int) → List G_Deed → List G_Contact → List (List UInt8) → List Int → {R : Type} → (List (G_net_own × Bool) → List (Int × Int) → List G_Deed → List G_Contact → List (List UInt8) → List Int → Option R) → Option R
 | 0, _, _, _, _, _, _, _, _, _, _ => none
 | n + 1, v6, v7, v8, v9, v10, v11, v12, v13, _, e0 => (bif (decide (v7 < v6)) then (inr v11 v7 (at_ v11 v7 fun x15 => (bif (decide (x15.f_Sent > 0)) then z43z_L3 g n v6 (w64 (v7 + 1)) v8 (mset_int_int x15.f_Sent (w64 (((mget_int_int x15.f_Sent v9).getD 0) + 1)) v9) v10 v11 v12 v13 e0 else z43z_L3 g n v6 (w64 (v7 + 1)) v8 v9 v10 v11 v12 v13 e0))) else e0 v8 v9 v10 v11 v12 v13)
def z43z_ (g : Nat) (a1 : List G_Deed) (a2 : List G_Contact) (a3 : List (List UInt8)) (a4 : List Int) (a5 : List (G_net_own × Bool)) {R : Type} (k0 : List (Int × Int) → List G_Deed → List G_Contact → List (List UInt8) → List Int → List (G_net_own × Bool) → Option R) : Option R :=
 (z43z_L3 g g (a2.length : Int) 0 a5 [] a1 a2 a3 a4 (fun e16 e17 e18 e19 e20 e21 => k0 e17 e18 e19 e20 e21 e16))
noncomputable def z43z [Fuel] : T_z43z := @z43z_ NN
def SS_z43z (g : T_z43z) : Spec A := fun args => match args with | [.box [.arr 117 a1, .arr 104 a2, .arr 9 a3, .arr 3 a4, .mp 256 4 a5]] => fun k => g a1 a2 a3 a4 a5 (fun z0 z1 z2 z3 z4 z5 => k (.mp 3 3 z0) [.box [.arr 117 z1, .arr 104 z2, .arr 9 z3, .arr 3 z4, .mp 256 4 z5]]) | _ => fun _ => none
def sh_z43z_L3 : SSt := mkSh 26 12 [(0, .ptr 0 0), (3, .mp 6), (10, .own 104 8), (11, .int .i64), (12, .int .i64)] [(0, .box [.own 117 7, .own 104 8, .own 9 9, .own 3 10, .mp 5]), (5, .mp 256 4), (6, .mp 3 3), (7, .row 117), (8, .row 104), (9, .row 9), (10, .row 3)]
def LP_z43z_L3 (g : Nat) (n : Nat) : LPT A := fun ps => match ps with | [.d (.int .i64 p1), .d (.int .i64 p2), .mp 256 4 p3, .mp 3 3 p4, .d (.sl 117 p5), .d (.sl 104 p6), .d (.sl 9 p7), .d (.sl 3 p8)] => fun K => z43z_L3 g n p1 p2 p3 p4 p5 p6 p7 p8 (fun z0 z1 z2 z3 z4 z5 => K (.exit 0) (mkSt 26 12 [(0, .ptr 0 0), (3, .mp 6)] [(0, some (.box [.own 117 7, .own 104 8, .own 9 9, .own 3 10, .mp 5])), (5, some (.mp 256 4 z0)), (6, some (.mp 3 3 z1)), (7, some (.row 117 z2)), (8, some (.row 104 z3)), (9, some (.row 9 z4)), (10, some (.row 3 z5))])) | _ => fun _ => none
noncomputable def E_z43z (g : Nat) : Env A := mkE [] [(5, [11]), (6, [6])] [(3, ⟨[0, 3, 10, 11, 12], [], [0, 5, 6], [(0, 0, 117, 7), (0, 1, 104, 8), (0, 2, 9, 9), (0, 3, 3, 10)], [], []⟩)] [(3, ⟨[0, 3], [], [0, 5, 6, 7, 8, 9, 10], [], [], []⟩)] [(3, pieceOf sh_z43z_L3 (LP_z43z_L3 g g))] [] [] [] [] [0]
theorem ct_z43z [Fuel] : NatTab (E_z43z NN).C := ct_of (P := Tryz.prog) (T := T) .nil (by kernel_rfl)
noncomputable def cb_z43z_L3 : Code := sub [1, 1, 0, 1, 0, 0] code_171
theorem s_z43z_L3 (g : Nat) (n : Nat) : StepOk (E_z43z g) g cb_z43z_L3 sh_z43z_L3 (LP_z43z_L3 g) n := by intro ps; unfold LP_z43z_L3; split; exact .inr fun R K => (by kernel_rfl); exact .inl fun R K => rfl
theorem lf_z43z_L3 [Fuel] : LoopFine (E_z43z NN) NN cb_z43z_L3 := fine_loop sh_z43z_L3 (LP_z43z_L3 NN) (by kernel_rfl) ct_z43z (cuts0 (fun _ => rfl) (by kernel_rfl)) (fun ps R K => by unfold LP_z43z_L3; split <;> (try unfold z43z_L3) <;> rfl) (s_z43z_L3 NN)
theorem sm_z43z (g : Nat) : Same (SS_z43z (@z43z_ g)) (abody (E_z43z g) Tryz.f171 code_171 12 [0, 1, 2, 3, 4, 5] [.asis] g) := by intro args; unfold SS_z43z; split; exact .inr fun R k => (by kernel_rfl); exact .inl fun R k => rfl
theorem ok_z43z [Fuel] : Ok 171 (SS_z43z (@z43z _)) := okF_of std .nil ⟨rfl, rfl, by kernel_rfl, rfl, rfl, rfl⟩ (sm_z43z NN) (cutsL (fun _ => rfl) (.cons lf_z43z_L3 .nil) (by kernel_rfl)) Tryz.func171 (by kernel_rfl) (by kernel_rfl)
abbrev T_z12z : Type 1 := List G_Deed → List G_Contact → List (List UInt8) → List Int → List (G_net_own × Bool) → {R : Type} → (List (Int × Int) → List G_Deed → List G_Contact → List (List UInt8) → List Int → List (G_net_own × Bool) → Option R) → Option R
noncomputable def z12z_L3 (g : Nat) : Nat → List (G_net_own × Bool) → List (G_net_own × Bool) → List (Int × Int) → List G_Deed → List G_Contact → List (List UInt8) → List Int → {R : Type} → (List (G_net_own × Bool) → List (Int × Int) → List G_Deed → List G_Contact → List (List UInt8) → List Int → Option R) → Option R
 | 0, _, _, _, _, _, _, _, _, _ => none
 | n + 1, m11, l12, v6, v7, v8, v9, v10, _, e0 => (pickAll l12 (e0 m11 v6 v7 v8 v9 v10) fun x15 l16 => z12z_L3 g n m11 l16 (mset_int_int x15.1.f_no (w64 (((mget_int_int x15.1.f_no v6).getD 0) + 1)) v6) v7 v8 v9 v10 e0)
noncomputable def raw_z12z (g : Nat) (a1 : List G_Deed) (a2 : List G_Contact) (a3 : List (List UInt8)) (a4 : List Int) (a5 : List (G_net_own × Bool)) {R : Type} (k0 : List (Int × Int) → List G_Deed → List G_Contact → List (List UInt8) → List Int → List (G_net_own × Bool) → Option R) : Option R :=
 (z12z_L3 g g a5 a5 [] a1 a2 a3 a4 (fun e17 e18 e19 e20 e21 e22 => k0 e18 e19 e20 e21 e22 e17))
def dec0_z12z (p : IV A × List (IV A)) : Option ((List (Int × Int)) × (List G_Deed) × (List G_Contact) × (List (List UInt8)) × (List Int) × (List (G_net_own × Bool))) := match p with | (.mp 3 3 b1, [.box [.arr 117 b2, .arr 104 b3, .arr 9 b4, .arr 3 b5, .mp 256 4 b6]]) => some (b1, b2, b3, b4, b5, b6) | _ => none
def inj0_z12z (q : (List (Int × Int)) × (List G_Deed) × (List G_Contact) × (List (List UInt8)) × (List Int) × (List (G_net_own × Bool))) : IV A × List (IV A) := (.mp 3 3 q.1, [.box [.arr 117 q.2.1, .arr 104 q.2.2.1, .arr 9 q.2.2.2.1, .arr 3 q.2.2.2.2.1, .mp 256 4 q.2.2.2.2.2]])
theorem hi0_z12z (p : IV A × List (IV A)) (q : (List (Int × Int)) × (List G_Deed) × (List G_Contact) × (List (List UInt8)) × (List Int) × (List (G_net_own × Bool))) (h : dec0_z12z p = some q) : p = inj0_z12z q := by unfold dec0_z12z at h; split at h; (cases h; rfl); cases h
noncomputable def z12z_ (g : Nat) (a1 : List G_Deed) (a2 : List G_Contact) (a3 : List (List UInt8)) (a4 : List Int) (a5 : List (G_net_own × Bool)) {R : Type} (k0 : List (Int × Int) → List G_Deed → List G_Contact → List (List UInt8) → List Int → List (G_net_own × Bool) → Option R) : Option R :=
 (raw_z12z g a1 a2 a3 a4 a5 (fun z0 z1 z2 z3 z4 z5 => some (inj0_z12z (z0, z1, z2, z3, z4, z5)))).bind fun p => (decK dec0_z12z p (fun q => k0 q.1 q.2.1 q.2.2.1 q.2.2.2.1 q.2.2.2.2.1 q.2.2.2.2.2) none)
noncomputable def z12z [Fuel] : T_z12z := @z12z_ NN
def SS_z12z (g : T_z12z) : Spec A := fun args => match args with | [.box [.arr 117 a1, .arr 104 a2, .arr 9 a3, .arr 3 a4, .mp 256 4 a5]] => fun k => g a1 a2 a3 a4 a5 (fun z0 z1 z2 z3 z4 z5 => k (.mp 3 3 z0) [.box [.arr 117 z1, .arr 104 z2, .arr 9 z3, .arr 3 z4, .mp 256 4 z5]]) | _ => fun _ => none
def sh_z12z_L3 : SSt := mkSh 21 12 [(0, .ptr 0 0), (3, .mp 6), (9, .mp 5)] [(0, .box [.own 117 7, .own 104 8, .own 9 9, .own 3 10, .mp 5]), (5, .gone (2, 0)), (6, .mp 3 3), (7, .row 117), (8, .row 104), (9, .row 9), (10, .row 3)]
noncomputable def LP_z12z_L3 (g : Nat) (n : Nat) (m l : List (A 256 × A 4)) : LPT A := fun ps => match ps with | [.mp 3 3 p1, .d (.sl 117 p2), .d (.sl 104 p3), .d (.sl 9 p4), .d (.sl 3 p5)] => fun K => z12z_L3 g n m l p1 p2 p3 p4 p5 (fun z0 z1 z2 z3 z4 z5 => K .normal (mkSt 21 12 [(0, .ptr 0 0), (3, .mp 6)] [(0, some (.box [.own 117 7, .own 104 8, .own 9 9, .own 3 10, .mp 5])), (5, some (.mp 256 4 z0)), (6, some (.mp 3 3 z1)), (7, some (.row 117 z2)), (8, some (.row 104 z3)), (9, some (.row 9 z4)), (10, some (.row 3 z5))])) | _ => fun _ => none
noncomputable def code_172 : Code := (Tryz.f172.body).getD .skip
noncomputable def E_z12z (g : Nat) : Env A := mkE [] [(4, [11]), (5, [6])] [(3, ⟨[0, 3, 9], [], [0, 5, 6], [(0, 0, 117, 7), (0, 1, 104, 8), (0, 2, 9, 9), (0, 3, 3, 10)], [], []⟩)] [(3, ⟨[0, 3], [], [0, 5, 6, 7, 8, 9, 10], [], [], []⟩)] [] [] [] [] [] [0]
noncomputable def CR_z12z (g : Nat) : Nat → Option (PieceR A) := fun i => List.lookup i [(3, pieceR 5 256 4 sh_z12z_L3 (LP_z12z_L3 g g))]
theorem ct_z12z [Fuel] : NatTab (E_z12z NN).C := ct_of (P := Tryz.prog) (T := T) .nil (by kernel_rfl)
noncomputable def rp_z12z_L3 : RangeP := (rangeOf (sub [1, 1, 0, 0] code_172) (sub [1, 1, 0, 1] code_172)).get (by kernel_rfl)
theorem s_z12z_L3 (g : Nat) (n : Nat) : RStepOk (E_z12z g) g rp_z12z_L3 5 256 4 sh_z12z_L3 (LP_z12z_L3 g) n := by intro m l ps; unfold LP_z12z_L3; split; exact .inr fun R K => (by kernel_rfl); exact .inl fun R K => rfl
theorem lf_z12z_L3 [Fuel] : ROk (E_z12z NN) (CR_z12z NN) NN rp_z12z_L3 := fine_range sh_z12z_L3 (LP_z12z_L3 NN) (by kernel_rfl) (cuts0 (fun _ => rfl) (by kernel_rfl)) (fun m l ps R K => by unfold LP_z12z_L3; split <;> (try unfold z12z_L3) <;> rfl) (s_z12z_L3 NN)
theorem sm_z12z (g : Nat) : Same (SS_z12z (@raw_z12z g)) (abodyR (E_z12z g) (CR_z12z g) Tryz.f172 code_172 12 [0, 1, 2, 3, 4, 5] [.asis] g) := by intro args; unfold SS_z12z; split; exact .inr fun R k => (by kernel_rfl); exact .inl fun R k => rfl
theorem wh_z12z (g : Nat) : Whole (SS_z12z (@z12z_ g)) (SS_z12z (@raw_z12z g)) := by
 intro args R k res h
 unfold SS_z12z at h
 split at h
 ·obtain ⟨p, hp, h⟩ := Option.bind_eq_some_iff.1 h
  exact ⟨p, hp, (decK_hc (inj := inj0_z12z) hi0_z12z (fun h => (by cases h)) h)⟩
 ·cases h
theorem nx_z12z (g : Nat) : NatSpec (SS_z12z (@z12z_ g)) := by
 intro args R k
 unfold SS_z12z
 split
 ·unfold z12z_
  rw [Option.bind_assoc]
  exact congrArg (Option.bind _) (funext fun p => (decK_na (inj := inj0_z12z) rfl))
 ·rfl
theorem ok_z12z [Fuel] : Ok 172 (SS_z12z (@z12z _)) := okR_of std .nil ⟨rfl, rfl, by kernel_rfl, rfl, rfl, rfl⟩ (sm_z12z NN) (wh_z12z NN) (nx_z12z NN) (cutsR (fun _ => rfl) .nil (.cons lf_z12z_L3 .nil) (by kernel_rfl) (by kernel_rfl)) Tryz.func172 (by kernel_rfl) (by kernel_rfl)
end Go.Am
