/- The functions of the program as Lean functions, each shown to be what the code computes, part 8. No condition: lemmas for the claim. -/
import Derived.Test.YtfifleplhegkdaaGreatDoorF0
import Derived.Test.YtfifleplhegkdaaGreatDoorFSh
import Derived.Test.YtfifleplhegkdaaGreatDoorF7
set_option linter.unusedVariables false
set_option maxRecDepth 100000
namespace Go.Am
open Go Go.Proofs
abbrev T_net_counting : Type 1 := List G_Deed → Int → {R : Type} → (List Int → Option R) → Option R
structure C_net_counting where
 N : Nat
 slices_Backward__Deed : T_slices_Backward__Deed
 slices_Reverse__int : T_slices_Reverse__int
def net_counting_L6 (g : C_net_counting) : Nat → List G_Deed → Int → List (G_net_own × Bool) → List Int → {R : Type} → (Int → List (G_net_own × Bool) → List Int → Option R) → Option R
 | 0, y0, y1, y2, y3, _, e0 => e0 y1 y2 y3
 | n + 1, l7, v4, v5, v6, _, e0 => (match l7[n]? with | none => none | some x8 => (bif (decide (x8.f_At > v4)) then net_counting_L6 g n l7 v4 v5 v6 e0 else (bif ((mget_net_own_bool (⟨x8.f_Site, x8.f_No⟩ : G_net_own) v5).getD false) then net_counting_L6 g n l7 v4 v5 v6 e0 else (bif (decide ((v6.length + [(n : Int)].length) * 8 ≤ roomBytes')) then (bif (x8.f_Kind == 5) then net_counting_L6 g n l7 v4 (mset_net_own_bool (⟨x8.f_Of, x8.f_Other⟩ : G_net_own) true v5) (v6 ++ [(n : Int)]) e0 else net_counting_L6 g n l7 v4 v5 (v6 ++ [(n : Int)]) e0) else none))))
noncomputable def raw_net_counting (g : C_net_counting) (a1 : List G_Deed) (a2 : Int) {R : Type} (k0 : List Int → Option R) : Option R :=
 (g.slices_Backward__Deed a1 (fun r3 => (bif decide (r3.length < 4611686018427387904) then (net_counting_L6 g r3.length r3 a2 [] [] (fun e9 e10 e11 => (g.slices_Reverse__int e11 (fun r12 => k0 r12)))) else none)))
def dec0_net_counting (p : IV A × List (IV A)) : Option ((List Int)) := match p with | (.arr 3 b1, [.undef, .undef]) => some (b1) | _ => none
def inj0_net_counting (q : (List Int)) : IV A × List (IV A) := (.arr 3 q, [.undef, .undef])
theorem hi0_net_counting (p : IV A × List (IV A)) (q : (List Int)) (h : dec0_net_counting p = some q) : p = inj0_net_counting q := by unfold dec0_net_counting at h; split at h; (cases h; rfl); cases h
noncomputable def net_counting_ (g : C_net_counting) (a1 : List G_Deed) (a2 : Int) {R : Type} (k0 : List Int → Option R) : Option R :=
 (raw_net_counting g a1 a2 (fun z0 => some (inj0_net_counting (z0)))).bind fun p => (decK dec0_net_counting p (fun q => k0 q) none)
noncomputable def I_net_counting [Fuel] : C_net_counting := ⟨NN, @slices_Backward__Deed _, @slices_Reverse__int _⟩
noncomputable def net_counting [Fuel] : T_net_counting := @net_counting_ I_net_counting
def SS_net_counting (g : T_net_counting) : Spec A := fun args => match args with | [.d (.sl 88 a1), .d (.int .i64 a2)] => fun k => g a1 a2 (fun z0 => k (.arr 3 z0) [.undef, .undef]) | _ => fun _ => none
def sh_net_counting_L6 : SSt := mkSh 43 9 [(3, .ptr 0 0), (5, .ptr 2 0), (6, .ptr 3 0)] [(0, .box [.int .i64]), (1, .mp 182 4), (2, .box [.mp 1]), (3, .box [.own 3 5]), (5, .row 3)]
abbrev bw_net_counting_L6 : Bw := ⟨204, 89, 88, 3, 4⟩
def LP_net_counting_L6 (g : C_net_counting) (n : Nat) (l : List (A (bw_net_counting_L6).tE)) : LPT A := fun ps => match ps with | [.d (.int .i64 p1), .mp 182 4 p2, .d (.sl 3 p3)] => fun K => net_counting_L6 g n l p1 p2 p3 (fun z0 z1 z2 => K .normal (mkSt 43 9 [(3, .ptr 0 0), (5, .ptr 2 0), (6, .ptr 3 0)] [(0, some (.box [.d (.int .i64 z0)])), (1, some (.mp 182 4 z1)), (2, some (.box [.mp 1])), (3, some (.box [.own 3 5])), (5, some (.row 3 z2))])) | _ => fun _ => none
noncomputable def code_138 : Code := (Tryz.f138.body).getD .skip
noncomputable def E_net_counting (g : C_net_counting) : Env A := mkE [(180, SS_slices_Backward__Deed g.slices_Backward__Deed), (181, SS_slices_Reverse__int g.slices_Reverse__int)] [(3, [0]), (5, [2]), (6, [3]), (8, [6]), (9, [1]), (11, [4]), (29, [7]), (30, [8])] [(6, ⟨[3, 5, 6], [], [0, 1, 2, 3], [(3, 0, 3, 5)]⟩)] [(6, ⟨[3, 5, 6], [], [0, 1, 2, 3], []⟩)] [] [] [] [] [(181, 0)] []
noncomputable def CB_net_counting (g : C_net_counting) : Nat → Option (Nat → PieceB A (bw_net_counting_L6).tE) := fun i => List.lookup i [(0, pieceB (bw_net_counting_L6).tE sh_net_counting_L6 (LP_net_counting_L6 g))]
def kp_net_counting : Nat → List Nat := fun i => (List.lookup i [(0, [3, 5, 6])]).getD []
theorem ct_net_counting [Fuel] : NatTab (E_net_counting I_net_counting).C := ct_of (P := Tryz.prog) (T := T) (.cons ok_slices_Backward__Deed (.cons ok_slices_Reverse__int .nil)) (by kernel_rfl)
noncomputable def bwp_net_counting_L6 : BwP := (bwP Tryz.f204.body).get (by kernel_rfl)
theorem bwf_net_counting_L6 : BwFine Tryz.prog T bw_net_counting_L6 := ⟨bwOk_of (fn := Tryz.f204) Tryz.func204 bwp_net_counting_L6 (by kernel_rfl) (by kernel_rfl) (by kernel_rfl) (by kernel_rfl) (by kernel_rfl) (by kernel_rfl) (by kernel_rfl) (by kernel_rfl) (by kernel_rfl), enters_of (fn := Tryz.f204) Tryz.func204 (by kernel_rfl) (by kernel_rfl), by kernel_rfl, by kernel_rfl, fun x => by kernel_rfl⟩
noncomputable def rp_net_counting_L6 : RfP := (rfOf (sub [1, 1, 1, 0] code_138)).get (by kernel_rfl)
theorem z_net_counting_L6 (g : C_net_counting) : BZeroOk (bw_net_counting_L6).tE sh_net_counting_L6 (LP_net_counting_L6 g) := by intro xs ps; unfold LP_net_counting_L6; split; exact .inr fun R K => (by kernel_rfl); exact .inl fun R K => rfl
theorem s_net_counting_L6 (g : C_net_counting) (i : Nat) : BStepOk (E_net_counting g) g.N (kp_net_counting (rp_net_counting_L6).B) rp_net_counting_L6 (bw_net_counting_L6).tE sh_net_counting_L6 (LP_net_counting_L6 g) i := by intro xs ps; unfold LP_net_counting_L6; split; exact .inr fun R K => (by kernel_rfl); exact .inl fun R K => rfl
theorem lf_net_counting_L6 [Fuel] : BOk (E_net_counting I_net_counting) bw_net_counting_L6 (CB_net_counting I_net_counting) kp_net_counting NN rp_net_counting_L6 := fine_back sh_net_counting_L6 (LP_net_counting_L6 I_net_counting) (by kernel_rfl) (cuts0 (fun _ => rfl) (by kernel_rfl)) (cuts0 (fun _ => rfl) (by kernel_rfl)) (z_net_counting_L6 I_net_counting) (s_net_counting_L6 I_net_counting)
theorem sm_net_counting (g : C_net_counting) : Same (SS_net_counting (@raw_net_counting g)) (abodyB (E_net_counting g) bw_net_counting_L6 (CB_net_counting g) kp_net_counting Tryz.f138 code_138 9 [] [.arr 3] g.N) := by intro args; unfold SS_net_counting; split; exact .inr fun R k => (by kernel_rfl); exact .inl fun R k => rfl
theorem wh_net_counting (g : C_net_counting) : Whole (SS_net_counting (@net_counting_ g)) (SS_net_counting (@raw_net_counting g)) := by
 intro args R k res h
 unfold SS_net_counting at h
 split at h
 ·obtain ⟨p, hp, h⟩ := Option.bind_eq_some_iff.1 h
  exact ⟨p, hp, (decK_hc (inj := inj0_net_counting) hi0_net_counting (fun h => (by cases h)) h)⟩
 ·cases h
theorem nx_net_counting (g : C_net_counting) : NatSpec (SS_net_counting (@net_counting_ g)) := by
 intro args R k
 unfold SS_net_counting
 split
 ·unfold net_counting_
  rw [Option.bind_assoc]
  exact congrArg (Option.bind _) (funext fun p => (decK_na (inj := inj0_net_counting) rfl))
 ·rfl
theorem ok_net_counting [Fuel] : Ok 138 (SS_net_counting (@net_counting _)) := okB_of std (.cons ok_slices_Backward__Deed (.cons ok_slices_Reverse__int .nil)) ⟨rfl, rfl, by kernel_rfl, rfl, rfl, rfl⟩ bwf_net_counting_L6 (sm_net_counting I_net_counting) (wh_net_counting I_net_counting) (nx_net_counting I_net_counting) (cutsB (fun _ => rfl) .nil (.cons lf_net_counting_L6 .nil) (by kernel_rfl) (by kernel_rfl)) Tryz.func138 (by kernel_rfl) (by kernel_rfl)
abbrev T_net_key : Type 1 := G_Contact → {R : Type} → (G_Contact → Option R) → Option R
def net_key_ (g : Nat) (a1 : G_Contact) {R : Type} (k0 : G_Contact → Option R) : Option R :=
 k0 (⟨a1.f_At, a1.f_Mode, a1.f_Band, a1.f_Call, 0, 0, [], []⟩ : G_Contact)
noncomputable def net_key [Fuel] : T_net_key := @net_key_ NN
def SS_net_key (g : T_net_key) : Spec A := fun args => match args with | [.agg [.d (.int .i64 a1), .d (.int .i64 a2), .d (.str a3), .d (.str a4), .d (.int .i64 a5), .d (.int .i64 a6), .d (.str a7), .d (.str a8)]] => fun k => g ⟨a1, a2, a3, a4, a5, a6, a7, a8⟩ (fun z0 => k (.agg [.d (.int .i64 z0.f_At), .d (.int .i64 z0.f_Mode), .d (.str z0.f_Band), .d (.str z0.f_Call), .d (.int .i64 z0.f_Sent), .d (.int .i64 z0.f_Heard), .d (.str z0.f_Gave), .d (.str z0.f_Got)]) [.undef]) | _ => fun _ => none
noncomputable def code_139 : Code := (Tryz.f139.body).getD .skip
noncomputable def E_net_key (g : Nat) : Env A := mkE [] [(1, [0]), (2, [1])] [] [] [] [] [] [] [] []
theorem sm_net_key (g : Nat) : Same (SS_net_key (@net_key_ g)) (abody (E_net_key g) Tryz.f139 code_139 2 [] [.asis] g) := by intro args; unfold SS_net_key; split; exact .inr fun R k => (by kernel_rfl); exact .inl fun R k => rfl
theorem ok_net_key [Fuel] : Ok 139 (SS_net_key (@net_key _)) := okF_of std .nil ⟨rfl, rfl, by kernel_rfl, rfl, rfl, rfl⟩ (sm_net_key NN) (cuts0 (fun _ => rfl) (by kernel_rfl)) Tryz.func139 (by kernel_rfl) (by kernel_rfl)
abbrev T_slices_SortFunc__Contact_log_Compare : Type 1 := List G_Contact → {R : Type} → (List G_Contact → Option R) → Option R
noncomputable def slices_SortFunc__Contact_log_Compare [Fuel] : T_slices_SortFunc__Contact_log_Compare := @X_sortf G_Contact (@log_Compare _)
def SS_slices_SortFunc__Contact_log_Compare (g : T_slices_SortFunc__Contact_log_Compare) : Spec A := fun args => match args with | [.arr 56 a1, .fn 56 []] => fun k => g a1 (fun z => k (.tup []) [.arr 56 z, .fn 56 []]) | _ => fun _ => none
theorem h1_slices_SortFunc__Contact_log_Compare [Fuel] (xs : List (A 56)) (R : Type) (k : IV A → List (IV A) → Option R) : SS_slices_SortFunc__Contact_log_Compare (@slices_SortFunc__Contact_log_Compare _) [.arr 56 xs, .fn 56 []] k = X_sortf (α := A 56) (@log_Compare _) xs (fun z => k (.tup []) [.arr 56 z, .fn 56 []]) := by kernel_rfl
theorem h2_slices_SortFunc__Contact_log_Compare [Fuel] (args : List (IV A)) (R : Type) (k : IV A → List (IV A) → Option R) (h : ∀ xs : List (A 56), args ≠ [.arr 56 xs, .fn 56 []]) : SS_slices_SortFunc__Contact_log_Compare (@slices_SortFunc__Contact_log_Compare _) args k = none := by unfold SS_slices_SortFunc__Contact_log_Compare; split; exact absurd rfl (h _); rfl
theorem hc_slices_SortFunc__Contact_log_Compare [Fuel] (x y : A 56) (R : Type) (k : Int → Option R) : callOf T (SS_log_Compare (@log_Compare _)) 56 x y k = @log_Compare _ x y R k := by kernel_rfl
theorem hs_slices_SortFunc__Contact_log_Compare (x : G_Contact) : (enc_e56 x).all scal = true := rfl
theorem ok_slices_SortFunc__Contact_log_Compare [Fuel] : Ok 55 (SS_slices_SortFunc__Contact_log_Compare (@slices_SortFunc__Contact_log_Compare _)) := ⟨sortf_sound (tyOk Tryz.prog) (e := 56) Tryz.sortf55 Tryz.isAgg56 Tryz.sizeOf56 (fun x d hd => List.all_eq_true.1 (hs_slices_SortFunc__Contact_log_Compare x) d hd) hc_slices_SortFunc__Contact_log_Compare okd_log_Compare.fs okd_log_Compare.en h1_slices_SortFunc__Contact_log_Compare h2_slices_SortFunc__Contact_log_Compare, sortf_na (e := 56) h1_slices_SortFunc__Contact_log_Compare h2_slices_SortFunc__Contact_log_Compare, enters_of (fn := Tryz.f55) Tryz.func55 (by kernel_rfl) (by kernel_rfl)⟩
abbrev T_net_stateAt : Type 1 := List G_Deed → Int → {R : Type} → (Int → Option R) → (List G_Deed → List G_Contact → List (List UInt8) → List Int → List (G_net_own × Bool) → Int → Option R) → Option R
structure C_net_stateAt where
 N : Nat
 slices_SortFunc__Contact_log_Compare : T_slices_SortFunc__Contact_log_Compare
 net_counting : T_net_counting
 net_key : T_net_key
def net_stateAt_L4 (g : C_net_stateAt) : Nat → List G_Deed → Int → Int → List (G_net_own × Bool) → List (G_Contact × G_Deed) → List Int → List G_Deed → List G_Contact → List (List UInt8) → List Int → {R : Type} → (List (G_net_own × Bool) → List (G_Contact × G_Deed) → List G_Deed → List G_Contact → List (List UInt8) → List Int → Option R) → Option R
 | 0, _, _, _, _, _, _, _, _, _, _, _, _ => none
 | n + 1, v4, v5, v6, v7, v8, v9, v10, v11, v12, v13, _, e0 => (bif (decide (v6 < v5)) then (inr v9 v6 (at_ v9 v6 fun x26 => (get_ v4 x26 fun x27 => (bif (decide ((v10.length + [x27].length) * 176 ≤ roomBytes')) then (bif (x27.f_Kind == 3) then (bif (x27.f_Kind != 1) then net_stateAt_L4 g n v4 v5 (w64 (v6 + 1)) (mset_net_own_bool (⟨x27.f_Site, x27.f_Contact.f_Sent⟩ : G_net_own) true v7) v8 v9 (v10 ++ [x27]) v11 v12 v13 e0 else (g.net_key x27.f_Contact (fun r28 => (bif (mget_Contact_Deed r28 v8).isSome then (bif (decide ((v13.length + [x26].length) * 8 ≤ roomBytes')) then net_stateAt_L4 g n v4 v5 (w64 (v6 + 1)) (mset_net_own_bool (⟨x27.f_Site, x27.f_Contact.f_Sent⟩ : G_net_own) true v7) v8 v9 (v10 ++ [x27]) v11 v12 (v13 ++ [x26]) e0 else none) else (g.net_key x27.f_Contact (fun r29 => (bif (decide ((v11.length + [x27.f_Contact].length) * 96 ≤ roomBytes')) then net_stateAt_L4 g n v4 v5 (w64 (v6 + 1)) (mset_net_own_bool (⟨x27.f_Site, x27.f_Contact.f_Sent⟩ : G_net_own) true v7) (mset_Contact_Deed r29 x27 v8) v9 (v10 ++ [x27]) (v11 ++ [x27.f_Contact]) v12 v13 e0 else none))))))) else (bif (x27.f_Kind == 4) then (bif (x27.f_Kind == 4) then (bif (x27.f_Kind != 1) then net_stateAt_L4 g n v4 v5 (w64 (v6 + 1)) (mdel_net_own_bool (⟨x27.f_Site, x27.f_Contact.f_Sent⟩ : G_net_own) v7) v8 v9 (v10 ++ [x27]) v11 v12 v13 e0 else (g.net_key x27.f_Contact (fun r30 => (bif (mget_Contact_Deed r30 v8).isSome then (bif (decide ((v13.length + [x26].length) * 8 ≤ roomBytes')) then net_stateAt_L4 g n v4 v5 (w64 (v6 + 1)) (mdel_net_own_bool (⟨x27.f_Site, x27.f_Contact.f_Sent⟩ : G_net_own) v7) v8 v9 (v10 ++ [x27]) v11 v12 (v13 ++ [x26]) e0 else none) else (g.net_key x27.f_Contact (fun r31 => (bif (decide ((v11.length + [x27.f_Contact].length) * 96 ≤ roomBytes')) then net_stateAt_L4 g n v4 v5 (w64 (v6 + 1)) (mdel_net_own_bool (⟨x27.f_Site, x27.f_Contact.f_Sent⟩ : G_net_own) v7) (mset_Contact_Deed r31 x27 v8) v9 (v10 ++ [x27]) (v11 ++ [x27.f_Contact]) v12 v13 e0 else none))))))) else (bif (x27.f_Kind != 1) then net_stateAt_L4 g n v4 v5 (w64 (v6 + 1)) v7 v8 v9 (v10 ++ [x27]) v11 v12 v13 e0 else (g.net_key x27.f_Contact (fun r32 => (bif (mget_Contact_Deed r32 v8).isSome then (bif (decide ((v13.length + [x26].length) * 8 ≤ roomBytes')) then net_stateAt_L4 g n v4 v5 (w64 (v6 + 1)) v7 v8 v9 (v10 ++ [x27]) v11 v12 (v13 ++ [x26]) e0 else none) else (g.net_key x27.f_Contact (fun r33 => (bif (decide ((v11.length + [x27.f_Contact].length) * 96 ≤ roomBytes')) then net_stateAt_L4 g n v4 v5 (w64 (v6 + 1)) v7 (mset_Contact_Deed r33 x27 v8) v9 (v10 ++ [x27]) (v11 ++ [x27.f_Contact]) v12 v13 e0 else none)))))))) else (bif (x27.f_Kind == 1) then (bif (x27.f_Kind != 1) then net_stateAt_L4 g n v4 v5 (w64 (v6 + 1)) (mdel_net_own_bool (⟨x27.f_Site, x27.f_Contact.f_Sent⟩ : G_net_own) v7) v8 v9 (v10 ++ [x27]) v11 v12 v13 e0 else (g.net_key x27.f_Contact (fun r34 => (bif (mget_Contact_Deed r34 v8).isSome then (bif (decide ((v13.length + [x26].length) * 8 ≤ roomBytes')) then net_stateAt_L4 g n v4 v5 (w64 (v6 + 1)) (mdel_net_own_bool (⟨x27.f_Site, x27.f_Contact.f_Sent⟩ : G_net_own) v7) v8 v9 (v10 ++ [x27]) v11 v12 (v13 ++ [x26]) e0 else none) else (g.net_key x27.f_Contact (fun r35 => (bif (decide ((v11.length + [x27.f_Contact].length) * 96 ≤ roomBytes')) then net_stateAt_L4 g n v4 v5 (w64 (v6 + 1)) (mdel_net_own_bool (⟨x27.f_Site, x27.f_Contact.f_Sent⟩ : G_net_own) v7) (mset_Contact_Deed r35 x27 v8) v9 (v10 ++ [x27]) (v11 ++ [x27.f_Contact]) v12 v13 e0 else none))))))) else (bif (x27.f_Kind != 1) then net_stateAt_L4 g n v4 v5 (w64 (v6 + 1)) v7 v8 v9 (v10 ++ [x27]) v11 v12 v13 e0 else (g.net_key x27.f_Contact (fun r36 => (bif (mget_Contact_Deed r36 v8).isSome then (bif (decide ((v13.length + [x26].length) * 8 ≤ roomBytes')) then net_stateAt_L4 g n v4 v5 (w64 (v6 + 1)) v7 v8 v9 (v10 ++ [x27]) v11 v12 (v13 ++ [x26]) e0 else none) else (g.net_key x27.f_Contact (fun r37 => (bif (decide ((v11.length + [x27.f_Contact].length) * 96 ≤ roomBytes')) then net_stateAt_L4 g n v4 v5 (w64 (v6 + 1)) v7 (mset_Contact_Deed r37 x27 v8) v9 (v10 ++ [x27]) (v11 ++ [x27.f_Contact]) v12 v13 e0 else none)))))))))) else none)))) else e0 v7 v8 v10 v11 v12 v13)
def net_stateAt_L25 (g : C_net_stateAt) : Nat → Int → Int → List (G_net_own × Bool) → List (G_Contact × G_Deed) → List G_Deed → List G_Contact → List (List UInt8) → List Int → {R : Type} → (List (G_net_own × Bool) → List G_Deed → List G_Contact → List (List UInt8) → List Int → Option R) → Option R
 | 0, _, _, _, _, _, _, _, _, _, _ => none
 | n + 1, v45, v46, v47, v48, v49, v50, v51, v52, _, e0 => (bif (decide (v46 < v45)) then (inr v50 v46 (at_ v50 v46 fun x55 => (g.net_key x55 (fun r56 => (bif (decide ((v51.length + [((mget_Contact_Deed r56 v48).getD (⟨[], 0, 0, 0, (⟨0, 0, [], [], 0, 0, [], []⟩ : G_Contact), [], [], 0⟩ : G_Deed)).f_Site].length) * 16 ≤ roomBytes')) then net_stateAt_L25 g n v45 (w64 (v46 + 1)) v47 v48 v49 v50 (v51 ++ [((mget_Contact_Deed r56 v48).getD (⟨[], 0, 0, 0, (⟨0, 0, [], [], 0, 0, [], []⟩ : G_Contact), [], [], 0⟩ : G_Deed)).f_Site]) v52 e0 else none))))) else e0 v47 v49 v50 v51 v52)
def net_stateAt_ (g : C_net_stateAt) (a1 : List G_Deed) (a2 : Int) {R : Type} (k0 : Int → Option R) (k1 : List G_Deed → List G_Contact → List (List UInt8) → List Int → List (G_net_own × Bool) → Int → Option R) : Option R :=
 (g.net_counting a1 a2 (fun r3 => (net_stateAt_L4 g g.N a1 (r3.length : Int) 0 [] [] r3 [] [] [] [] (fun e38 e39 e40 e41 e42 e43 => (bif (decide ((e41.length : Int) > 2000)) then k0 2 else (g.slices_SortFunc__Contact_log_Compare e41 (fun r44 => (net_stateAt_L25 g g.N (r44.length : Int) 0 e38 e39 e40 r44 e42 e43 (fun e57 e58 e59 e60 e61 => k1 e58 e59 e60 e61 e57 0)))))))))
noncomputable def I_net_stateAt [Fuel] : C_net_stateAt := ⟨NN, @slices_SortFunc__Contact_log_Compare _, @net_counting _, @net_key _⟩
noncomputable def net_stateAt [Fuel] : T_net_stateAt := @net_stateAt_ I_net_stateAt
def SS_net_stateAt (g : T_net_stateAt) : Spec A := fun args => match args with | [.d (.sl 88 a1), .d (.int .i64 a2)] => fun k => g a1 a2 (fun z0 => k (.tup [.d (.lit (.pointer none)), .d (.int .i64 z0)]) [.undef, .undef]) (fun z0 z1 z2 z3 z4 z5 => k (.tup [.box [.arr 88 z0, .arr 56 z1, .arr 9 z2, .arr 3 z3, .mp 182 4 z4], .d (.int .i64 z5)]) [.undef, .undef]) | _ => fun _ => none
def sh_net_stateAt_L4 : SSt := mkSh 143 23 [(0, .sl 88), (6, .ptr 1 0), (7, .mp 2), (21, .own 3 3), (22, .int .i64), (23, .int .i64)] [(0, .mp 182 4), (1, .box [.own 88 4, .own 56 5, .own 9 6, .own 3 7, .mp 0]), (2, .mp 56 88), (3, .row 3), (4, .row 88), (5, .row 56), (6, .row 9), (7, .row 3)]
def LP_net_stateAt_L4 (g : C_net_stateAt) (n : Nat) : LPT A := fun ps => match ps with | [.d (.sl 88 p1), .d (.int .i64 p2), .d (.int .i64 p3), .mp 182 4 p4, .mp 56 88 p5, .d (.sl 3 p6), .d (.sl 88 p7), .d (.sl 56 p8), .d (.sl 9 p9), .d (.sl 3 p10)] => fun K => net_stateAt_L4 g n p1 p2 p3 p4 p5 p6 p7 p8 p9 p10 (fun z0 z1 z2 z3 z4 z5 => K (.exit 0) (mkSt 143 23 [(6, .ptr 1 0), (7, .mp 2)] [(0, some (.mp 182 4 z0)), (1, some (.box [.own 88 4, .own 56 5, .own 9 6, .own 3 7, .mp 0])), (2, some (.mp 56 88 z1)), (4, some (.row 88 z2)), (5, some (.row 56 z3)), (6, some (.row 9 z4)), (7, some (.row 3 z5))])) | _ => fun _ => none
def sh_net_stateAt_L25 : SSt := mkSh 143 23 [(6, .ptr 1 0), (7, .mp 2), (121, .own 56 17), (122, .int .i64), (123, .int .i64)] [(0, .mp 182 4), (1, .box [.own 88 16, .own 56 17, .own 9 18, .own 3 19, .mp 0]), (2, .mp 56 88), (16, .row 88), (17, .row 56), (18, .row 9), (19, .row 3)]
def LP_net_stateAt_L25 (g : C_net_stateAt) (n : Nat) : LPT A := fun ps => match ps with | [.d (.int .i64 p1), .d (.int .i64 p2), .mp 182 4 p3, .mp 56 88 p4, .d (.sl 88 p5), .d (.sl 56 p6), .d (.sl 9 p7), .d (.sl 3 p8)] => fun K => net_stateAt_L25 g n p1 p2 p3 p4 p5 p6 p7 p8 (fun z0 z1 z2 z3 z4 => K (.exit 3) (mkSt 143 23 [(6, .ptr 1 0)] [(0, some (.mp 182 4 z0)), (1, some (.box [.own 88 16, .own 56 17, .own 9 18, .own 3 19, .mp 0])), (16, some (.row 88 z1)), (17, some (.row 56 z2)), (18, some (.row 9 z3)), (19, some (.row 3 z4))])) | _ => fun _ => none
noncomputable def code_104 : Code := (Tryz.f104.body).getD .skip
noncomputable def E_net_stateAt (g : C_net_stateAt) : Env A := mkE [(55, SS_slices_SortFunc__Contact_log_Compare g.slices_SortFunc__Contact_log_Compare), (138, SS_net_counting g.net_counting), (139, SS_net_key g.net_key)] [(10, [8]), (11, [11]), (14, [20]), (15, [0]), (17, [1]), (18, [2]), (21, [3]), (37, [9]), (38, [10]), (86, [12]), (87, [13]), (102, [14]), (103, [15]), (137, [21]), (138, [22])] [(4, ⟨[0, 6, 7, 21, 22, 23], [], [0, 1, 2, 3], [(1, 0, 88, 4), (1, 1, 56, 5), (1, 2, 9, 6), (1, 3, 3, 7)]⟩), (25, ⟨[6, 7, 121, 122, 123], [], [0, 1, 2], [(1, 0, 88, 16), (1, 1, 56, 17), (1, 2, 9, 18), (1, 3, 3, 19)]⟩)] [(4, ⟨[6, 7], [], [0, 1, 2, 4, 5, 6, 7], []⟩), (25, ⟨[6], [], [0, 1, 16, 17, 18, 19], []⟩)] [(4, pieceOf sh_net_stateAt_L4 (LP_net_stateAt_L4 g g.N)), (25, pieceOf sh_net_stateAt_L25 (LP_net_stateAt_L25 g g.N))] [] [] [] [(55, 0)] []
theorem ct_net_stateAt [Fuel] : NatTab (E_net_stateAt I_net_stateAt).C := ct_of (P := Tryz.prog) (T := T) (.cons ok_slices_SortFunc__Contact_log_Compare (.cons ok_net_counting (.cons ok_net_key .nil))) (by kernel_rfl)
noncomputable def cb_net_stateAt_L4 : Code := sub [1, 1, 1, 0, 1, 0, 0] code_104
theorem s_net_stateAt_L4 (g : C_net_stateAt) (n : Nat) : StepOk (E_net_stateAt g) g.N cb_net_stateAt_L4 sh_net_stateAt_L4 (LP_net_stateAt_L4 g) n := by intro ps; unfold LP_net_stateAt_L4; split; exact .inr fun R K => (by kernel_rfl); exact .inl fun R K => rfl
theorem lf_net_stateAt_L4 [Fuel] : LoopFine (E_net_stateAt I_net_stateAt) NN cb_net_stateAt_L4 := fine_loop sh_net_stateAt_L4 (LP_net_stateAt_L4 I_net_stateAt) (by kernel_rfl) ct_net_stateAt (cuts0 (fun _ => rfl) (by kernel_rfl)) (fun ps R K => by unfold LP_net_stateAt_L4; split <;> (try unfold net_stateAt_L4) <;> rfl) (s_net_stateAt_L4 I_net_stateAt)
noncomputable def cb_net_stateAt_L25 : Code := sub [1, 1, 1, 1, 1, 1, 0, 1, 0, 0] code_104
theorem s_net_stateAt_L25 (g : C_net_stateAt) (n : Nat) : StepOk (E_net_stateAt g) g.N cb_net_stateAt_L25 sh_net_stateAt_L25 (LP_net_stateAt_L25 g) n := by intro ps; unfold LP_net_stateAt_L25; split; exact .inr fun R K => (by kernel_rfl); exact .inl fun R K => rfl
theorem lf_net_stateAt_L25 [Fuel] : LoopFine (E_net_stateAt I_net_stateAt) NN cb_net_stateAt_L25 := fine_loop sh_net_stateAt_L25 (LP_net_stateAt_L25 I_net_stateAt) (by kernel_rfl) ct_net_stateAt (cuts0 (fun _ => rfl) (by kernel_rfl)) (fun ps R K => by unfold LP_net_stateAt_L25; split <;> (try unfold net_stateAt_L25) <;> rfl) (s_net_stateAt_L25 I_net_stateAt)
theorem sm_net_stateAt (g : C_net_stateAt) : Same (SS_net_stateAt (@net_stateAt_ g)) (abody (E_net_stateAt g) Tryz.f104 code_104 23 [] [.asis, .asis] g.N) := by intro args; unfold SS_net_stateAt; split; exact .inr fun R k => (by kernel_rfl); exact .inl fun R k => rfl
theorem ok_net_stateAt [Fuel] : Ok 104 (SS_net_stateAt (@net_stateAt _)) := okF_of std (.cons ok_slices_SortFunc__Contact_log_Compare (.cons ok_net_counting (.cons ok_net_key .nil))) ⟨rfl, rfl, by kernel_rfl, rfl, rfl, rfl⟩ (sm_net_stateAt I_net_stateAt) (cutsL (fun _ => rfl) (.cons lf_net_stateAt_L4 (.cons lf_net_stateAt_L25 .nil)) (by kernel_rfl)) Tryz.func104 (by kernel_rfl) (by kernel_rfl)
abbrev T_net_checkedAt : Type 1 := List G_Deed → Int → {R : Type} → (Int → Option R) → (List G_Deed → List G_Contact → List (List UInt8) → List Int → List (G_net_own × Bool) → Int → Option R) → Option R
structure C_net_checkedAt where
 N : Nat
 net_askedFault : T_net_askedFault
 net_stateAt : T_net_stateAt
def net_checkedAt_ (g : C_net_checkedAt) (a1 : List G_Deed) (a2 : Int) {R : Type} (k0 : Int → Option R) (k1 : List G_Deed → List G_Contact → List (List UInt8) → List Int → List (G_net_own × Bool) → Int → Option R) : Option R :=
 (g.net_askedFault a1 a2 (fun r3 => (bif (r3 != 0) then k0 r3 else (g.net_stateAt a1 a2 (fun r4 => k0 r4) (fun r5 r6 r7 r8 r9 r10 => k1 r5 r6 r7 r8 r9 r10)))))
noncomputable def I_net_checkedAt [Fuel] : C_net_checkedAt := ⟨NN, @net_askedFault _, @net_stateAt _⟩
noncomputable def net_checkedAt [Fuel] : T_net_checkedAt := @net_checkedAt_ I_net_checkedAt
def SS_net_checkedAt (g : T_net_checkedAt) : Spec A := fun args => match args with | [.d (.sl 88 a1), .d (.int .i64 a2)] => fun k => g a1 a2 (fun z0 => k (.tup [.d (.lit (.pointer none)), .d (.int .i64 z0)]) [.undef, .undef]) (fun z0 z1 z2 z3 z4 z5 => k (.tup [.box [.arr 88 z0, .arr 56 z1, .arr 9 z2, .arr 3 z3, .mp 182 4 z4], .d (.int .i64 z5)]) [.undef, .undef]) | _ => fun _ => none
noncomputable def code_69 : Code := (Tryz.f69.body).getD .skip
noncomputable def E_net_checkedAt (g : C_net_checkedAt) : Env A := mkE [(103, SS_net_askedFault g.net_askedFault), (104, SS_net_stateAt g.net_stateAt)] [(15, [0, 1, 2, 3, 4, 5])] [] [] [] [] [] [] [] []
theorem sm_net_checkedAt (g : C_net_checkedAt) : Same (SS_net_checkedAt (@net_checkedAt_ g)) (abody (E_net_checkedAt g) Tryz.f69 code_69 6 [] [.asis, .asis] g.N) := by intro args; unfold SS_net_checkedAt; split; exact .inr fun R k => (by kernel_rfl); exact .inl fun R k => rfl
theorem ok_net_checkedAt [Fuel] : Ok 69 (SS_net_checkedAt (@net_checkedAt _)) := okF_of std (.cons ok_net_askedFault (.cons ok_net_stateAt .nil)) ⟨rfl, rfl, by kernel_rfl, rfl, rfl, rfl⟩ (sm_net_checkedAt I_net_checkedAt) (cuts0 (fun _ => rfl) (by kernel_rfl)) Tryz.func69 (by kernel_rfl) (by kernel_rfl)
abbrev T_net_state_sent_z0 : Type 1 := {R : Type} → Option R
def net_state_sent_z0_ (g : Nat)  {R : Type}  : Option R :=
 none
noncomputable def net_state_sent_z0 [Fuel] : T_net_state_sent_z0 := @net_state_sent_z0_ NN
def SS_net_state_sent_z0 (g : T_net_state_sent_z0) : Spec A := fun args => match args with | [.d (.lit (.pointer none))] => fun k => g | _ => fun _ => none
noncomputable def code_105 : Code := (Tryz.f105.body).getD .skip
noncomputable def E_net_state_sent_z0 (g : Nat) : Env A := mkE [] [(6, [0])] [] [] [] [] [] [] [] []
noncomputable def cb_net_state_sent_z0_L3 : Code := sub [1, 1, 0, 1, 0, 0] code_105
theorem lf_net_state_sent_z0_L3 [Fuel] : LoopFine (E_net_state_sent_z0 NN) NN cb_net_state_sent_z0_L3 := no_loop (by kernel_rfl)
theorem sm_net_state_sent_z0 (g : Nat) : Same (SS_net_state_sent_z0 (@net_state_sent_z0_ g)) (abody (E_net_state_sent_z0 g) Tryz.f105 code_105 1 [] [.asis] g) := by intro args; unfold SS_net_state_sent_z0; split; exact .inr fun R k => (by kernel_rfl); exact .inl fun R k => rfl
theorem ok_net_state_sent_z0 [Fuel] : Ok 105 (SS_net_state_sent_z0 (@net_state_sent_z0 _)) := okF_of std .nil ⟨rfl, rfl, by kernel_rfl, rfl, rfl, rfl⟩ (sm_net_state_sent_z0 NN) (cutsL (fun _ => rfl) (.cons lf_net_state_sent_z0_L3 .nil) (by kernel_rfl)) Tryz.func105 (by kernel_rfl) (by kernel_rfl)
abbrev T_net_state_next_z0 : Type 1 := {R : Type} → Option R
structure C_net_state_next_z0 where
 N : Nat
 net_state_sent_z0 : T_net_state_sent_z0
def net_state_next_z0_ (g : C_net_state_next_z0)  {R : Type}  : Option R :=
 (g.net_state_sent_z0)
noncomputable def I_net_state_next_z0 [Fuel] : C_net_state_next_z0 := ⟨NN, @net_state_sent_z0 _⟩
noncomputable def net_state_next_z0 [Fuel] : T_net_state_next_z0 := @net_state_next_z0_ I_net_state_next_z0
def SS_net_state_next_z0 (g : T_net_state_next_z0) : Spec A := fun args => match args with | [.d (.lit (.pointer none))] => fun k => g | _ => fun _ => none
noncomputable def code_70 : Code := (Tryz.f70.body).getD .skip
noncomputable def E_net_state_next_z0 (g : C_net_state_next_z0) : Env A := mkE [(105, SS_net_state_sent_z0 g.net_state_sent_z0)] [] [] [] [] [] [] [] [] []
noncomputable def cb_net_state_next_z0_L3 : Code := sub [1, 1, 0, 1, 0, 0] code_70
theorem lf_net_state_next_z0_L3 [Fuel] : LoopFine (E_net_state_next_z0 I_net_state_next_z0) NN cb_net_state_next_z0_L3 := no_loop (by kernel_rfl)
theorem sm_net_state_next_z0 (g : C_net_state_next_z0) : Same (SS_net_state_next_z0 (@net_state_next_z0_ g)) (abody (E_net_state_next_z0 g) Tryz.f70 code_70 0 [] [.asis, .asis] g.N) := by intro args; unfold SS_net_state_next_z0; split; exact .inr fun R k => (by kernel_rfl); exact .inl fun R k => rfl
theorem ok_net_state_next_z0 [Fuel] : Ok 70 (SS_net_state_next_z0 (@net_state_next_z0 _)) := okF_of std (.cons ok_net_state_sent_z0 .nil) ⟨rfl, rfl, by kernel_rfl, rfl, rfl, rfl⟩ (sm_net_state_next_z0 I_net_state_next_z0) (cutsL (fun _ => rfl) (.cons lf_net_state_next_z0_L3 .nil) (by kernel_rfl)) Tryz.func70 (by kernel_rfl) (by kernel_rfl)
abbrev T_net_state_sent_baaaax0 : Type 1 := List G_Deed → List G_Contact → List (List UInt8) → List Int → List (G_net_own × Bool) → {R : Type} → (List (Int × Int) → List G_Deed → List G_Contact → List (List UInt8) → List Int → List (G_net_own × Bool) → Option R) → Option R
def net_state_sent_baaaax0_L3 (g : Nat) : Nat → Int → Int → List (G_net_own × Bool) → List (Int × Int) → List G_Deed → List G_Contact → List (List UInt8) → List Int → {R : Type} → (List (G_net_own × Bool) → List (Int × Int) → List G_Deed → List G_Contact → List (List UInt8) → List Int → Option R) → Option R
 | 0, _, _, _, _, _, _, _, _, _, _ => none
 | n + 1, v6, v7, v8, v9, v10, v11, v12, v13, _, e0 => (bif (decide (v7 < v6)) then (inr v11 v7 (at_ v11 v7 fun x15 => (bif (decide (x15.f_Sent > 0)) then net_state_sent_baaaax0_L3 g n v6 (w64 (v7 + 1)) v8 (mset_int_int x15.f_Sent (w64 (((mget_int_int x15.f_Sent v9).getD 0) + 1)) v9) v10 v11 v12 v13 e0 else net_state_sent_baaaax0_L3 g n v6 (w64 (v7 + 1)) v8 v9 v10 v11 v12 v13 e0))) else e0 v8 v9 v10 v11 v12 v13)
def net_state_sent_baaaax0_ (g : Nat) (a1 : List G_Deed) (a2 : List G_Contact) (a3 : List (List UInt8)) (a4 : List Int) (a5 : List (G_net_own × Bool)) {R : Type} (k0 : List (Int × Int) → List G_Deed → List G_Contact → List (List UInt8) → List Int → List (G_net_own × Bool) → Option R) : Option R :=
 (net_state_sent_baaaax0_L3 g g (a2.length : Int) 0 a5 [] a1 a2 a3 a4 (fun e16 e17 e18 e19 e20 e21 => k0 e17 e18 e19 e20 e21 e16))
noncomputable def net_state_sent_baaaax0 [Fuel] : T_net_state_sent_baaaax0 := @net_state_sent_baaaax0_ NN
def SS_net_state_sent_baaaax0 (g : T_net_state_sent_baaaax0) : Spec A := fun args => match args with | [.box [.arr 88 a1, .arr 56 a2, .arr 9 a3, .arr 3 a4, .mp 182 4 a5]] => fun k => g a1 a2 a3 a4 a5 (fun z0 z1 z2 z3 z4 z5 => k (.mp 3 3 z0) [.box [.arr 88 z1, .arr 56 z2, .arr 9 z3, .arr 3 z4, .mp 182 4 z5]]) | _ => fun _ => none
def sh_net_state_sent_baaaax0_L3 : SSt := mkSh 26 12 [(0, .ptr 0 0), (3, .mp 6), (10, .own 56 8), (11, .int .i64), (12, .int .i64)] [(0, .box [.own 88 7, .own 56 8, .own 9 9, .own 3 10, .mp 5]), (5, .mp 182 4), (6, .mp 3 3), (7, .row 88), (8, .row 56), (9, .row 9), (10, .row 3)]
def LP_net_state_sent_baaaax0_L3 (g : Nat) (n : Nat) : LPT A := fun ps => match ps with | [.d (.int .i64 p1), .d (.int .i64 p2), .mp 182 4 p3, .mp 3 3 p4, .d (.sl 88 p5), .d (.sl 56 p6), .d (.sl 9 p7), .d (.sl 3 p8)] => fun K => net_state_sent_baaaax0_L3 g n p1 p2 p3 p4 p5 p6 p7 p8 (fun z0 z1 z2 z3 z4 z5 => K (.exit 0) (mkSt 26 12 [(0, .ptr 0 0), (3, .mp 6)] [(0, some (.box [.own 88 7, .own 56 8, .own 9 9, .own 3 10, .mp 5])), (5, some (.mp 182 4 z0)), (6, some (.mp 3 3 z1)), (7, some (.row 88 z2)), (8, some (.row 56 z3)), (9, some (.row 9 z4)), (10, some (.row 3 z5))])) | _ => fun _ => none
noncomputable def E_net_state_sent_baaaax0 (g : Nat) : Env A := mkE [] [(5, [11]), (6, [6])] [(3, ⟨[0, 3, 10, 11, 12], [], [0, 5, 6], [(0, 0, 88, 7), (0, 1, 56, 8), (0, 2, 9, 9), (0, 3, 3, 10)]⟩)] [(3, ⟨[0, 3], [], [0, 5, 6, 7, 8, 9, 10], []⟩)] [(3, pieceOf sh_net_state_sent_baaaax0_L3 (LP_net_state_sent_baaaax0_L3 g g))] [] [] [] [] [0]
theorem ct_net_state_sent_baaaax0 [Fuel] : NatTab (E_net_state_sent_baaaax0 NN).C := ct_of (P := Tryz.prog) (T := T) .nil (by kernel_rfl)
noncomputable def cb_net_state_sent_baaaax0_L3 : Code := sub [1, 1, 0, 1, 0, 0] code_105
theorem s_net_state_sent_baaaax0_L3 (g : Nat) (n : Nat) : StepOk (E_net_state_sent_baaaax0 g) g cb_net_state_sent_baaaax0_L3 sh_net_state_sent_baaaax0_L3 (LP_net_state_sent_baaaax0_L3 g) n := by intro ps; unfold LP_net_state_sent_baaaax0_L3; split; exact .inr fun R K => (by kernel_rfl); exact .inl fun R K => rfl
theorem lf_net_state_sent_baaaax0_L3 [Fuel] : LoopFine (E_net_state_sent_baaaax0 NN) NN cb_net_state_sent_baaaax0_L3 := fine_loop sh_net_state_sent_baaaax0_L3 (LP_net_state_sent_baaaax0_L3 NN) (by kernel_rfl) ct_net_state_sent_baaaax0 (cuts0 (fun _ => rfl) (by kernel_rfl)) (fun ps R K => by unfold LP_net_state_sent_baaaax0_L3; split <;> (try unfold net_state_sent_baaaax0_L3) <;> rfl) (s_net_state_sent_baaaax0_L3 NN)
theorem sm_net_state_sent_baaaax0 (g : Nat) : Same (SS_net_state_sent_baaaax0 (@net_state_sent_baaaax0_ g)) (abody (E_net_state_sent_baaaax0 g) Tryz.f105 code_105 12 [0, 1, 2, 3, 4, 5] [.asis] g) := by intro args; unfold SS_net_state_sent_baaaax0; split; exact .inr fun R k => (by kernel_rfl); exact .inl fun R k => rfl
theorem ok_net_state_sent_baaaax0 [Fuel] : Ok 105 (SS_net_state_sent_baaaax0 (@net_state_sent_baaaax0 _)) := okF_of std .nil ⟨rfl, rfl, by kernel_rfl, rfl, rfl, rfl⟩ (sm_net_state_sent_baaaax0 NN) (cutsL (fun _ => rfl) (.cons lf_net_state_sent_baaaax0_L3 .nil) (by kernel_rfl)) Tryz.func105 (by kernel_rfl) (by kernel_rfl)
abbrev T_net_state_holders_baaaax0 : Type 1 := List G_Deed → List G_Contact → List (List UInt8) → List Int → List (G_net_own × Bool) → {R : Type} → (List (Int × Int) → List G_Deed → List G_Contact → List (List UInt8) → List Int → List (G_net_own × Bool) → Option R) → Option R
noncomputable def net_state_holders_baaaax0_L3 (g : Nat) : Nat → List (G_net_own × Bool) → List (G_net_own × Bool) → List (Int × Int) → List G_Deed → List G_Contact → List (List UInt8) → List Int → {R : Type} → (List (G_net_own × Bool) → List (Int × Int) → List G_Deed → List G_Contact → List (List UInt8) → List Int → Option R) → Option R
 | 0, _, _, _, _, _, _, _, _, _ => none
 | n + 1, m11, l12, v6, v7, v8, v9, v10, _, e0 => (pickAll l12 (e0 m11 v6 v7 v8 v9 v10) fun x15 l16 => net_state_holders_baaaax0_L3 g n m11 l16 (mset_int_int x15.1.f_no (w64 (((mget_int_int x15.1.f_no v6).getD 0) + 1)) v6) v7 v8 v9 v10 e0)
noncomputable def raw_net_state_holders_baaaax0 (g : Nat) (a1 : List G_Deed) (a2 : List G_Contact) (a3 : List (List UInt8)) (a4 : List Int) (a5 : List (G_net_own × Bool)) {R : Type} (k0 : List (Int × Int) → List G_Deed → List G_Contact → List (List UInt8) → List Int → List (G_net_own × Bool) → Option R) : Option R :=
 (net_state_holders_baaaax0_L3 g g a5 a5 [] a1 a2 a3 a4 (fun e17 e18 e19 e20 e21 e22 => k0 e18 e19 e20 e21 e22 e17))
def dec0_net_state_holders_baaaax0 (p : IV A × List (IV A)) : Option ((List (Int × Int)) × (List G_Deed) × (List G_Contact) × (List (List UInt8)) × (List Int) × (List (G_net_own × Bool))) := match p with | (.mp 3 3 b1, [.box [.arr 88 b2, .arr 56 b3, .arr 9 b4, .arr 3 b5, .mp 182 4 b6]]) => some (b1, b2, b3, b4, b5, b6) | _ => none
def inj0_net_state_holders_baaaax0 (q : (List (Int × Int)) × (List G_Deed) × (List G_Contact) × (List (List UInt8)) × (List Int) × (List (G_net_own × Bool))) : IV A × List (IV A) := (.mp 3 3 q.1, [.box [.arr 88 q.2.1, .arr 56 q.2.2.1, .arr 9 q.2.2.2.1, .arr 3 q.2.2.2.2.1, .mp 182 4 q.2.2.2.2.2]])
theorem hi0_net_state_holders_baaaax0 (p : IV A × List (IV A)) (q : (List (Int × Int)) × (List G_Deed) × (List G_Contact) × (List (List UInt8)) × (List Int) × (List (G_net_own × Bool))) (h : dec0_net_state_holders_baaaax0 p = some q) : p = inj0_net_state_holders_baaaax0 q := by unfold dec0_net_state_holders_baaaax0 at h; split at h; (cases h; rfl); cases h
noncomputable def net_state_holders_baaaax0_ (g : Nat) (a1 : List G_Deed) (a2 : List G_Contact) (a3 : List (List UInt8)) (a4 : List Int) (a5 : List (G_net_own × Bool)) {R : Type} (k0 : List (Int × Int) → List G_Deed → List G_Contact → List (List UInt8) → List Int → List (G_net_own × Bool) → Option R) : Option R :=
 (raw_net_state_holders_baaaax0 g a1 a2 a3 a4 a5 (fun z0 z1 z2 z3 z4 z5 => some (inj0_net_state_holders_baaaax0 (z0, z1, z2, z3, z4, z5)))).bind fun p => (decK dec0_net_state_holders_baaaax0 p (fun q => k0 q.1 q.2.1 q.2.2.1 q.2.2.2.1 q.2.2.2.2.1 q.2.2.2.2.2) none)
noncomputable def net_state_holders_baaaax0 [Fuel] : T_net_state_holders_baaaax0 := @net_state_holders_baaaax0_ NN
def SS_net_state_holders_baaaax0 (g : T_net_state_holders_baaaax0) : Spec A := fun args => match args with | [.box [.arr 88 a1, .arr 56 a2, .arr 9 a3, .arr 3 a4, .mp 182 4 a5]] => fun k => g a1 a2 a3 a4 a5 (fun z0 z1 z2 z3 z4 z5 => k (.mp 3 3 z0) [.box [.arr 88 z1, .arr 56 z2, .arr 9 z3, .arr 3 z4, .mp 182 4 z5]]) | _ => fun _ => none
def sh_net_state_holders_baaaax0_L3 : SSt := mkSh 21 12 [(0, .ptr 0 0), (3, .mp 6), (9, .mp 5)] [(0, .box [.own 88 7, .own 56 8, .own 9 9, .own 3 10, .mp 5]), (5, .gone (2, 0)), (6, .mp 3 3), (7, .row 88), (8, .row 56), (9, .row 9), (10, .row 3)]
noncomputable def LP_net_state_holders_baaaax0_L3 (g : Nat) (n : Nat) (m l : List (A 182 × A 4)) : LPT A := fun ps => match ps with | [.mp 3 3 p1, .d (.sl 88 p2), .d (.sl 56 p3), .d (.sl 9 p4), .d (.sl 3 p5)] => fun K => net_state_holders_baaaax0_L3 g n m l p1 p2 p3 p4 p5 (fun z0 z1 z2 z3 z4 z5 => K .normal (mkSt 21 12 [(0, .ptr 0 0), (3, .mp 6)] [(0, some (.box [.own 88 7, .own 56 8, .own 9 9, .own 3 10, .mp 5])), (5, some (.mp 182 4 z0)), (6, some (.mp 3 3 z1)), (7, some (.row 88 z2)), (8, some (.row 56 z3)), (9, some (.row 9 z4)), (10, some (.row 3 z5))])) | _ => fun _ => none
noncomputable def code_106 : Code := (Tryz.f106.body).getD .skip
noncomputable def E_net_state_holders_baaaax0 (g : Nat) : Env A := mkE [] [(4, [11]), (5, [6])] [(3, ⟨[0, 3, 9], [], [0, 5, 6], [(0, 0, 88, 7), (0, 1, 56, 8), (0, 2, 9, 9), (0, 3, 3, 10)]⟩)] [(3, ⟨[0, 3], [], [0, 5, 6, 7, 8, 9, 10], []⟩)] [] [] [] [] [] [0]
noncomputable def CR_net_state_holders_baaaax0 (g : Nat) : Nat → Option (PieceR A) := fun i => List.lookup i [(3, pieceR 5 182 4 sh_net_state_holders_baaaax0_L3 (LP_net_state_holders_baaaax0_L3 g g))]
theorem ct_net_state_holders_baaaax0 [Fuel] : NatTab (E_net_state_holders_baaaax0 NN).C := ct_of (P := Tryz.prog) (T := T) .nil (by kernel_rfl)
noncomputable def rp_net_state_holders_baaaax0_L3 : RangeP := (rangeOf (sub [1, 1, 0, 0] code_106) (sub [1, 1, 0, 1] code_106)).get (by kernel_rfl)
theorem s_net_state_holders_baaaax0_L3 (g : Nat) (n : Nat) : RStepOk (E_net_state_holders_baaaax0 g) g rp_net_state_holders_baaaax0_L3 5 182 4 sh_net_state_holders_baaaax0_L3 (LP_net_state_holders_baaaax0_L3 g) n := by intro m l ps; unfold LP_net_state_holders_baaaax0_L3; split; exact .inr fun R K => (by kernel_rfl); exact .inl fun R K => rfl
theorem lf_net_state_holders_baaaax0_L3 [Fuel] : ROk (E_net_state_holders_baaaax0 NN) (CR_net_state_holders_baaaax0 NN) NN rp_net_state_holders_baaaax0_L3 := fine_range sh_net_state_holders_baaaax0_L3 (LP_net_state_holders_baaaax0_L3 NN) (by kernel_rfl) (cuts0 (fun _ => rfl) (by kernel_rfl)) (fun m l ps R K => by unfold LP_net_state_holders_baaaax0_L3; split <;> (try unfold net_state_holders_baaaax0_L3) <;> rfl) (s_net_state_holders_baaaax0_L3 NN)
theorem sm_net_state_holders_baaaax0 (g : Nat) : Same (SS_net_state_holders_baaaax0 (@raw_net_state_holders_baaaax0 g)) (abodyR (E_net_state_holders_baaaax0 g) (CR_net_state_holders_baaaax0 g) Tryz.f106 code_106 12 [0, 1, 2, 3, 4, 5] [.asis] g) := by intro args; unfold SS_net_state_holders_baaaax0; split; exact .inr fun R k => (by kernel_rfl); exact .inl fun R k => rfl
theorem wh_net_state_holders_baaaax0 (g : Nat) : Whole (SS_net_state_holders_baaaax0 (@net_state_holders_baaaax0_ g)) (SS_net_state_holders_baaaax0 (@raw_net_state_holders_baaaax0 g)) := by
 intro args R k res h
 unfold SS_net_state_holders_baaaax0 at h
 split at h
 ·obtain ⟨p, hp, h⟩ := Option.bind_eq_some_iff.1 h
  exact ⟨p, hp, (decK_hc (inj := inj0_net_state_holders_baaaax0) hi0_net_state_holders_baaaax0 (fun h => (by cases h)) h)⟩
 ·cases h
theorem nx_net_state_holders_baaaax0 (g : Nat) : NatSpec (SS_net_state_holders_baaaax0 (@net_state_holders_baaaax0_ g)) := by
 intro args R k
 unfold SS_net_state_holders_baaaax0
 split
 ·unfold net_state_holders_baaaax0_
  rw [Option.bind_assoc]
  exact congrArg (Option.bind _) (funext fun p => (decK_na (inj := inj0_net_state_holders_baaaax0) rfl))
 ·rfl
theorem ok_net_state_holders_baaaax0 [Fuel] : Ok 106 (SS_net_state_holders_baaaax0 (@net_state_holders_baaaax0 _)) := okR_of std .nil ⟨rfl, rfl, by kernel_rfl, rfl, rfl, rfl⟩ (sm_net_state_holders_baaaax0 NN) (wh_net_state_holders_baaaax0 NN) (nx_net_state_holders_baaaax0 NN) (cutsR (fun _ => rfl) .nil (.cons lf_net_state_holders_baaaax0_L3 .nil) (by kernel_rfl) (by kernel_rfl)) Tryz.func106 (by kernel_rfl) (by kernel_rfl)
end Go.Am
