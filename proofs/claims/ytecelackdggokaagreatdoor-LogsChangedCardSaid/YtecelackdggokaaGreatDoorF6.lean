/- The functions of the program as Lean functions, each shown to be what the code computes, part 6. No condition: lemmas for the claim. -/
import Derived.Test.YtecelackdggokaaGreatDoorF0
import Derived.Test.YtecelackdggokaaGreatDoorFSh
import Derived.Test.YtecelackdggokaaGreatDoorF2
import Derived.Test.YtecelackdggokaaGreatDoorF3
import Derived.Test.YtecelackdggokaaGreatDoorF4
import Derived.Test.YtecelackdggokaaGreatDoorF5
set_option linter.unusedVariables false
set_option maxRecDepth 100000
namespace Go.Am
open Go Go.Proofs
abbrev T_log_key : Type 1 := G_Contact → {R : Type} → (G_Contact → Option R) → Option R
def log_key_ (g : Nat) (a1 : G_Contact) {R : Type} (k0 : G_Contact → Option R) : Option R :=
  k0 (⟨a1.f_At, a1.f_Mode, a1.f_Band, a1.f_Call, 0, 0, [], []⟩ : G_Contact)
noncomputable def log_key [Fuel] : T_log_key := @log_key_ NN
def SS_log_key (g : T_log_key) : Spec A := fun args => match args with | [.agg [.d (.int .i64 a1), .d (.int .i64 a2), .d (.str a3), .d (.str a4), .d (.int .i64 a5), .d (.int .i64 a6), .d (.str a7), .d (.str a8)]] => fun k => g ⟨a1, a2, a3, a4, a5, a6, a7, a8⟩ (fun z0 => k (.agg [.d (.int .i64 z0.f_At), .d (.int .i64 z0.f_Mode), .d (.str z0.f_Band), .d (.str z0.f_Call), .d (.int .i64 z0.f_Sent), .d (.int .i64 z0.f_Heard), .d (.str z0.f_Gave), .d (.str z0.f_Got)]) [.undef]) | _ => fun _ => none
noncomputable def code_82 : Code := (Tryz.f82.body).getD .skip
noncomputable def E_log_key (g : Nat) : Env A := mkE [] [(1, [0]), (2, [1])] [] [] [] [] [] [] [] []
theorem sm_log_key (g : Nat) : Same (SS_log_key (@log_key_ g)) (abody (E_log_key g) Tryz.f82 code_82 2 [] [.asis] g) := by intro args; unfold SS_log_key; split; exact .inr fun R k => (by kernel_rfl); exact .inl fun R k => rfl
theorem ok_log_key [Fuel] : Ok 82 (SS_log_key (@log_key _)) := okF_of std .nil ⟨rfl, rfl, by kernel_rfl, rfl, rfl⟩ (sm_log_key NN) (cuts0 (fun _ => rfl) (by kernel_rfl)) Tryz.func82 (by kernel_rfl) (by kernel_rfl)
abbrev T_log_change : Type 1 := List (G_Contact × G_Contact) → G_Change → {R : Type} → (Bool → List (G_Contact × G_Contact) → Option R) → Option R
structure C_log_change where
  N : Nat
  log_key : T_log_key
def log_change_ (g : C_log_change) (a1 : List (G_Contact × G_Contact)) (a2 : G_Change) {R : Type} (k0 : Bool → List (G_Contact × G_Contact) → Option R) : Option R :=
  (g.log_key a2.f_Was (fun r3 => (g.log_key a2.f_Is (fun r4 => (bif (a2.f_Kind != 1) then (bif (!(mget_Contact_Contact r3 a1).isSome) then k0 false a1 else (bif (!(eq_G_Contact (⟨((mget_Contact_Contact r3 a1).getD (⟨0, 0, [], [], 0, 0, [], []⟩ : G_Contact)).f_At, ((mget_Contact_Contact r3 a1).getD (⟨0, 0, [], [], 0, 0, [], []⟩ : G_Contact)).f_Mode, ((mget_Contact_Contact r3 a1).getD (⟨0, 0, [], [], 0, 0, [], []⟩ : G_Contact)).f_Band, ((mget_Contact_Contact r3 a1).getD (⟨0, 0, [], [], 0, 0, [], []⟩ : G_Contact)).f_Call, ((mget_Contact_Contact r3 a1).getD (⟨0, 0, [], [], 0, 0, [], []⟩ : G_Contact)).f_Sent, ((mget_Contact_Contact r3 a1).getD (⟨0, 0, [], [], 0, 0, [], []⟩ : G_Contact)).f_Heard, ((mget_Contact_Contact r3 a1).getD (⟨0, 0, [], [], 0, 0, [], []⟩ : G_Contact)).f_Gave, ((mget_Contact_Contact r3 a1).getD (⟨0, 0, [], [], 0, 0, [], []⟩ : G_Contact)).f_Got⟩ : G_Contact) a2.f_Was)) then k0 false a1 else (bif (a2.f_Kind != 2) then (bif (mget_Contact_Contact r4 a1).isSome then (bif (a2.f_Kind == 1) then k0 false a1 else (bif (!(eq_G_Contact r4 r3)) then k0 false a1 else (bif (a2.f_Kind != 1) then (bif (a2.f_Kind != 2) then k0 true (mset_Contact_Contact r4 a2.f_Is (mdel_Contact_Contact r3 a1)) else k0 true (mdel_Contact_Contact r3 a1)) else (bif (a2.f_Kind != 2) then k0 true (mset_Contact_Contact r4 a2.f_Is a1) else k0 true a1)))) else (bif (a2.f_Kind != 1) then (bif (a2.f_Kind != 2) then k0 true (mset_Contact_Contact r4 a2.f_Is (mdel_Contact_Contact r3 a1)) else k0 true (mdel_Contact_Contact r3 a1)) else (bif (a2.f_Kind != 2) then k0 true (mset_Contact_Contact r4 a2.f_Is a1) else k0 true a1))) else (bif (a2.f_Kind != 1) then (bif (a2.f_Kind != 2) then k0 true (mset_Contact_Contact r4 a2.f_Is (mdel_Contact_Contact r3 a1)) else k0 true (mdel_Contact_Contact r3 a1)) else (bif (a2.f_Kind != 2) then k0 true (mset_Contact_Contact r4 a2.f_Is a1) else k0 true a1))))) else (bif (a2.f_Kind != 2) then (bif (mget_Contact_Contact r4 a1).isSome then (bif (a2.f_Kind == 1) then k0 false a1 else (bif (!(eq_G_Contact r4 r3)) then k0 false a1 else (bif (a2.f_Kind != 1) then (bif (a2.f_Kind != 2) then k0 true (mset_Contact_Contact r4 a2.f_Is (mdel_Contact_Contact r3 a1)) else k0 true (mdel_Contact_Contact r3 a1)) else (bif (a2.f_Kind != 2) then k0 true (mset_Contact_Contact r4 a2.f_Is a1) else k0 true a1)))) else (bif (a2.f_Kind != 1) then (bif (a2.f_Kind != 2) then k0 true (mset_Contact_Contact r4 a2.f_Is (mdel_Contact_Contact r3 a1)) else k0 true (mdel_Contact_Contact r3 a1)) else (bif (a2.f_Kind != 2) then k0 true (mset_Contact_Contact r4 a2.f_Is a1) else k0 true a1))) else (bif (a2.f_Kind != 1) then (bif (a2.f_Kind != 2) then k0 true (mset_Contact_Contact r4 a2.f_Is (mdel_Contact_Contact r3 a1)) else k0 true (mdel_Contact_Contact r3 a1)) else (bif (a2.f_Kind != 2) then k0 true (mset_Contact_Contact r4 a2.f_Is a1) else k0 true a1))))))))
noncomputable def I_log_change [Fuel] : C_log_change := ⟨NN, @log_key _⟩
noncomputable def log_change [Fuel] : T_log_change := @log_change_ I_log_change
def SS_log_change (g : T_log_change) : Spec A := fun args => match args with | [.mp 34 34 a1, .agg [.d (.int .i64 a2), .d (.int .i64 a3), .d (.int .i64 a4), .d (.int .i64 a5), .d (.str a6), .d (.str a7), .d (.int .i64 a8), .d (.int .i64 a9), .d (.str a10), .d (.str a11), .d (.int .i64 a12), .d (.int .i64 a13), .d (.str a14), .d (.str a15), .d (.int .i64 a16), .d (.int .i64 a17), .d (.str a18), .d (.str a19)]] => fun k => g a1 ⟨a2, a3, ⟨a4, a5, a6, a7, a8, a9, a10, a11⟩, ⟨a12, a13, a14, a15, a16, a17, a18, a19⟩⟩ (fun z0 z1 => k (.d (.bool z0)) [.mp 34 34 z1, .undef]) | _ => fun _ => none
noncomputable def code_83 : Code := (Tryz.f83.body).getD .skip
noncomputable def E_log_change (g : C_log_change) : Env A := mkE [(82, SS_log_key g.log_key)] [(3, [1]), (5, [2]), (6, [3]), (7, [4]), (9, [5])] [] [] [] [] [] [] [] [0]
theorem sm_log_change (g : C_log_change) : Same (SS_log_change (@log_change_ g)) (abody (E_log_change g) Tryz.f83 code_83 6 [0] [.asis] g.N) := by intro args; unfold SS_log_change; split; exact .inr fun R k => (by kernel_rfl); exact .inl fun R k => rfl
theorem ok_log_change [Fuel] : Ok 83 (SS_log_change (@log_change _)) := okF_of std (.cons ok_log_key .nil) ⟨rfl, rfl, by kernel_rfl, rfl, rfl⟩ (sm_log_change I_log_change) (cuts0 (fun _ => rfl) (by kernel_rfl)) Tryz.func83 (by kernel_rfl) (by kernel_rfl)
abbrev T_slices_SortFunc__Contact_log_Compare : Type 1 := List G_Contact → {R : Type} → (List G_Contact → Option R) → Option R
noncomputable def slices_SortFunc__Contact_log_Compare [Fuel] : T_slices_SortFunc__Contact_log_Compare := @X_sortf G_Contact (@log_Compare _)
def SS_slices_SortFunc__Contact_log_Compare (g : T_slices_SortFunc__Contact_log_Compare) : Spec A := fun args => match args with | [.arr 34 a1, .fn 85 []] => fun k => g a1 (fun z => k (.tup []) [.arr 34 z, .fn 85 []]) | _ => fun _ => none
theorem h1_slices_SortFunc__Contact_log_Compare [Fuel] (xs : List (A 34)) (R : Type) (k : IV A → List (IV A) → Option R) : SS_slices_SortFunc__Contact_log_Compare (@slices_SortFunc__Contact_log_Compare _) [.arr 34 xs, .fn 85 []] k = X_sortf (α := A 34) (@log_Compare _) xs (fun z => k (.tup []) [.arr 34 z, .fn 85 []]) := by kernel_rfl
theorem h2_slices_SortFunc__Contact_log_Compare [Fuel] (args : List (IV A)) (R : Type) (k : IV A → List (IV A) → Option R) (h : ∀ xs : List (A 34), args ≠ [.arr 34 xs, .fn 85 []]) : SS_slices_SortFunc__Contact_log_Compare (@slices_SortFunc__Contact_log_Compare _) args k = none := by unfold SS_slices_SortFunc__Contact_log_Compare; split; exact absurd rfl (h _); rfl
theorem hc_slices_SortFunc__Contact_log_Compare [Fuel] (x y : A 34) (R : Type) (k : Int → Option R) : callOf T (SS_log_Compare (@log_Compare _)) 34 x y k = @log_Compare _ x y R k := by kernel_rfl
theorem hs_slices_SortFunc__Contact_log_Compare (x : G_Contact) : (enc_e34 x).all scal = true := rfl
theorem ok_slices_SortFunc__Contact_log_Compare [Fuel] : Ok 84 (SS_slices_SortFunc__Contact_log_Compare (@slices_SortFunc__Contact_log_Compare _)) := ⟨sortf_sound (tyOk Tryz.prog) (e := 34) Tryz.sortf84 Tryz.isAgg34 Tryz.sizeOf34 (fun x d hd => List.all_eq_true.1 (hs_slices_SortFunc__Contact_log_Compare x) d hd) hc_slices_SortFunc__Contact_log_Compare okd_log_Compare.fs okd_log_Compare.en h1_slices_SortFunc__Contact_log_Compare h2_slices_SortFunc__Contact_log_Compare, sortf_na (e := 34) h1_slices_SortFunc__Contact_log_Compare h2_slices_SortFunc__Contact_log_Compare, enters_of (fn := Tryz.f84) Tryz.func84 (by kernel_rfl) (by kernel_rfl)⟩
abbrev T_log_Changed : Type 1 := List G_Contact → List G_Change → {R : Type} → (List G_Contact → List Int → Int → Option R) → Option R
structure C_log_Changed where
  N : Nat
  log_CheckChanges : T_log_CheckChanges
  log_CheckLog : T_log_CheckLog
  log_key : T_log_key
  log_change : T_log_change
  slices_SortFunc__Contact_log_Compare : T_slices_SortFunc__Contact_log_Compare
def log_Changed_L9 (g : C_log_Changed) : Nat → List G_Change → List G_Contact → Int → Int → List (G_Contact × G_Contact) → {R : Type} → (List G_Change → List (G_Contact × G_Contact) → Option R) → Option R
  | 0, _, _, _, _, _, _, _ => none
  | n + 1, v5, v6, v7, v8, v9, _, e0 => (bif (decide (v8 < v7)) then (get_ v6 v8 fun x12 => (g.log_key x12 (fun r13 => log_Changed_L9 g n v5 v6 v7 (w64 (v8 + 1)) (mset_Contact_Contact r13 x12 v9) e0))) else e0 v5 v9)
def log_Changed_L15 (g : C_log_Changed) : Nat → List G_Change → Int → Int → List (G_Contact × G_Contact) → List Int → {R : Type} → (List (G_Contact × G_Contact) → List Int → Option R) → Option R
  | 0, _, _, _, _, _, _, _ => none
  | n + 1, v16, v17, v18, v19, v20, _, e0 => (bif (decide (v18 < v17)) then (get_ v16 v18 fun x24 => (g.log_change v19 x24 (fun r25 r26 => (bif (!r25) then (bif (decide ((v20.length + [v18].length) * 8 ≤ roomBytes')) then log_Changed_L15 g n v16 v17 (w64 (v18 + 1)) r26 (v20 ++ [v18]) e0 else none) else log_Changed_L15 g n v16 v17 (w64 (v18 + 1)) r26 v20 e0)))) else e0 v19 v20)
noncomputable def log_Changed_L24 (g : C_log_Changed) : Nat → List (G_Contact × G_Contact) → List (G_Contact × G_Contact) → List Int → List G_Contact → {R : Type} → (List Int → List G_Contact → Option R) → Option R
  | 0, _, _, _, _, _, _ => none
  | n + 1, m31, l32, v29, v30, _, e0 => (pickAll l32 (e0 v29 v30) fun x35 l36 => (bif (decide ((v30.length + [x35.2].length) * 96 ≤ roomBytes')) then log_Changed_L24 g n m31 l36 v29 (v30 ++ [x35.2]) e0 else none))
noncomputable def raw_log_Changed (g : C_log_Changed) (a1 : List G_Contact) (a2 : List G_Change) {R : Type} (k0 : List G_Contact → List Int → Int → Option R) : Option R :=
  (g.log_CheckLog a1 (fun r3 => (bif (r3 != 0) then k0 [] [] r3 else (g.log_CheckChanges a2 (fun r4 => (bif (r4 != 0) then k0 [] [] r4 else (log_Changed_L9 g g.N a2 a1 (a1.length : Int) 0 [] (fun e14 e15 => (log_Changed_L15 g g.N e14 (e14.length : Int) 0 e15 [] (fun e27 e28 => (bif (decide ((e27.length : Int) > 2000)) then k0 [] [] 2 else (log_Changed_L24 g g.N e27 e27 e28 [] (fun e37 e38 => (g.slices_SortFunc__Contact_log_Compare e38 (fun r39 => k0 r39 e37 0)))))))))))))))
def dec0_log_Changed (p : IV A × List (IV A)) : Option ((List G_Contact) × (List Int) × Int) := match p with | (.tup [.arr 34 b1, .arr 3 b2, .d (.int .i64 b3)], [.undef, .undef]) => some (b1, b2, b3) | _ => none
def inj0_log_Changed (q : (List G_Contact) × (List Int) × Int) : IV A × List (IV A) := (.tup [.arr 34 q.1, .arr 3 q.2.1, .d (.int .i64 q.2.2)], [.undef, .undef])
theorem hi0_log_Changed (p : IV A × List (IV A)) (q : (List G_Contact) × (List Int) × Int) (h : dec0_log_Changed p = some q) : p = inj0_log_Changed q := by unfold dec0_log_Changed at h; split at h; (cases h; rfl); cases h
noncomputable def log_Changed_ (g : C_log_Changed) (a1 : List G_Contact) (a2 : List G_Change) {R : Type} (k0 : List G_Contact → List Int → Int → Option R) : Option R :=
  (raw_log_Changed g a1 a2 (fun z0 z1 z2 => some (inj0_log_Changed (z0, z1, z2)))).bind fun p => (decK dec0_log_Changed p (fun q => k0 q.1 q.2.1 q.2.2) none)
noncomputable def I_log_Changed [Fuel] : C_log_Changed := ⟨NN, @log_CheckChanges _, @log_CheckLog _, @log_key _, @log_change _, @slices_SortFunc__Contact_log_Compare _⟩
noncomputable def log_Changed [Fuel] : T_log_Changed := @log_Changed_ I_log_Changed
def SS_log_Changed (g : T_log_Changed) : Spec A := fun args => match args with | [.d (.sl 34 a1), .d (.sl 36 a2)] => fun k => g a1 a2 (fun z0 z1 z2 => k (.tup [.arr 34 z0, .arr 3 z1, .d (.int .i64 z2)]) [.undef, .undef]) | _ => fun _ => none
def sh_log_Changed_L9 : SSt := mkSh 73 10 [(1, .sl 36), (9, .mp 0), (29, .sl 34), (30, .int .i64), (31, .int .i64)] [(0, .mp 34 34)]
def LP_log_Changed_L9 (g : C_log_Changed) (n : Nat) : LPT A := fun ps => match ps with | [.d (.sl 36 p1), .d (.sl 34 p2), .d (.int .i64 p3), .d (.int .i64 p4), .mp 34 34 p5] => fun K => log_Changed_L9 g n p1 p2 p3 p4 p5 (fun z0 z1 => K (.exit 0) (mkSt 73 10 [(1, .d (.sl 36 z0)), (9, .mp 0)] [(0, some (.mp 34 34 z1))])) | _ => fun _ => none
def sh_log_Changed_L15 : SSt := mkSh 73 10 [(9, .mp 0), (12, .own 3 2), (40, .sl 36), (41, .int .i64), (42, .int .i64)] [(0, .mp 34 34), (2, .row 3)]
def LP_log_Changed_L15 (g : C_log_Changed) (n : Nat) : LPT A := fun ps => match ps with | [.d (.sl 36 p1), .d (.int .i64 p2), .d (.int .i64 p3), .mp 34 34 p4, .d (.sl 3 p5)] => fun K => log_Changed_L15 g n p1 p2 p3 p4 p5 (fun z0 z1 => K (.exit 2) (mkSt 73 10 [(9, .mp 0), (12, .own 3 2)] [(0, some (.mp 34 34 z0)), (2, some (.row 3 z1))])) | _ => fun _ => none
def sh_log_Changed_L24 : SSt := mkSh 73 10 [(12, .own 3 2), (15, .own 34 6), (59, .mp 0)] [(0, .gone (2, 0)), (2, .row 3), (6, .row 34)]
noncomputable def LP_log_Changed_L24 (g : C_log_Changed) (n : Nat) (m l : List (A 34 × A 34)) : LPT A := fun ps => match ps with | [.d (.sl 3 p1), .d (.sl 34 p2)] => fun K => log_Changed_L24 g n m l p1 p2 (fun z0 z1 => K .normal (mkSt 73 10 [(12, .own 3 2), (15, .own 34 6)] [(2, some (.row 3 z0)), (6, some (.row 34 z1))])) | _ => fun _ => none
noncomputable def code_14 : Code := (Tryz.f14.body).getD .skip
noncomputable def E_log_Changed (g : C_log_Changed) : Env A := mkE [(20, SS_log_CheckChanges g.log_CheckChanges), (81, SS_log_CheckLog g.log_CheckLog), (82, SS_log_key g.log_key), (83, SS_log_change g.log_change), (84, SS_slices_SortFunc__Contact_log_Compare g.slices_SortFunc__Contact_log_Compare)] [(11, [1]), (14, [3]), (17, [7]), (28, [0]), (53, [4]), (54, [5]), (67, [8]), (68, [9])] [(9, ⟨[1, 9, 29, 30, 31], [], [0], []⟩), (15, ⟨[9, 12, 40, 41, 42], [(12, 3, 2)], [0], []⟩), (24, ⟨[12, 15, 59], [(15, 34, 6)], [0, 2], []⟩)] [(9, ⟨[1, 9], [], [0], []⟩), (15, ⟨[9, 12], [], [0, 2], []⟩), (24, ⟨[12, 15], [], [2, 6], []⟩)] [(9, pieceOf sh_log_Changed_L9 (LP_log_Changed_L9 g g.N)), (15, pieceOf sh_log_Changed_L15 (LP_log_Changed_L15 g g.N))] [] [] [] [(84, 0)] []
noncomputable def CR_log_Changed (g : C_log_Changed) : Nat → Option (PieceR A) := fun i => List.lookup i [(24, pieceR 0 34 34 sh_log_Changed_L24 (LP_log_Changed_L24 g g.N))]
theorem ct_log_Changed [Fuel] : NatTab (E_log_Changed I_log_Changed).C := ct_of (P := Tryz.prog) (T := T) (.cons ok_log_CheckChanges (.cons ok_log_CheckLog (.cons ok_log_key (.cons ok_log_change (.cons ok_slices_SortFunc__Contact_log_Compare .nil))))) (by kernel_rfl)
noncomputable def cb_log_Changed_L9 : Code := sub [1, 1, 1, 1, 0, 1, 0, 0] code_14
theorem s_log_Changed_L9 (g : C_log_Changed) (n : Nat) : StepOk (E_log_Changed g) g.N cb_log_Changed_L9 sh_log_Changed_L9 (LP_log_Changed_L9 g) n := by intro ps; unfold LP_log_Changed_L9; split; exact .inr fun R K => (by kernel_rfl); exact .inl fun R K => rfl
theorem lf_log_Changed_L9 [Fuel] : LoopFine (E_log_Changed I_log_Changed) NN cb_log_Changed_L9 := fine_loop sh_log_Changed_L9 (LP_log_Changed_L9 I_log_Changed) (by kernel_rfl) ct_log_Changed (cuts0 (fun _ => rfl) (by kernel_rfl)) (fun ps R K => by unfold LP_log_Changed_L9; split <;> (try unfold log_Changed_L9) <;> rfl) (s_log_Changed_L9 I_log_Changed)
noncomputable def cb_log_Changed_L15 : Code := sub [1, 1, 1, 1, 1, 1, 0, 1, 0, 0] code_14
theorem s_log_Changed_L15 (g : C_log_Changed) (n : Nat) : StepOk (E_log_Changed g) g.N cb_log_Changed_L15 sh_log_Changed_L15 (LP_log_Changed_L15 g) n := by intro ps; unfold LP_log_Changed_L15; split; exact .inr fun R K => (by kernel_rfl); exact .inl fun R K => rfl
theorem lf_log_Changed_L15 [Fuel] : LoopFine (E_log_Changed I_log_Changed) NN cb_log_Changed_L15 := fine_loop sh_log_Changed_L15 (LP_log_Changed_L15 I_log_Changed) (by kernel_rfl) ct_log_Changed (cuts0 (fun _ => rfl) (by kernel_rfl)) (fun ps R K => by unfold LP_log_Changed_L15; split <;> (try unfold log_Changed_L15) <;> rfl) (s_log_Changed_L15 I_log_Changed)
noncomputable def rp_log_Changed_L24 : RangeP := (rangeOf (sub [1, 1, 1, 1, 1, 1, 1, 1, 1, 0, 0] code_14) (sub [1, 1, 1, 1, 1, 1, 1, 1, 1, 0, 1] code_14)).get (by kernel_rfl)
theorem s_log_Changed_L24 (g : C_log_Changed) (n : Nat) : RStepOk (E_log_Changed g) g.N rp_log_Changed_L24 0 34 34 sh_log_Changed_L24 (LP_log_Changed_L24 g) n := by intro m l ps; unfold LP_log_Changed_L24; split; exact .inr fun R K => (by kernel_rfl); exact .inl fun R K => rfl
theorem lf_log_Changed_L24 [Fuel] : ROk (E_log_Changed I_log_Changed) (CR_log_Changed I_log_Changed) NN rp_log_Changed_L24 := fine_range sh_log_Changed_L24 (LP_log_Changed_L24 I_log_Changed) (by kernel_rfl) (cuts0 (fun _ => rfl) (by kernel_rfl)) (fun m l ps R K => by unfold LP_log_Changed_L24; split <;> (try unfold log_Changed_L24) <;> rfl) (s_log_Changed_L24 I_log_Changed)
theorem sm_log_Changed (g : C_log_Changed) : Same (SS_log_Changed (@raw_log_Changed g)) (abodyR (E_log_Changed g) (CR_log_Changed g) Tryz.f14 code_14 10 [] [.arr 34, .arr 3, .asis] g.N) := by intro args; unfold SS_log_Changed; split; exact .inr fun R k => (by kernel_rfl); exact .inl fun R k => rfl
theorem wh_log_Changed (g : C_log_Changed) : Whole (SS_log_Changed (@log_Changed_ g)) (SS_log_Changed (@raw_log_Changed g)) := by
  intro args R k res h
  unfold SS_log_Changed at h
  split at h
  · obtain ⟨p, hp, h⟩ := Option.bind_eq_some_iff.1 h
    exact ⟨p, hp, (decK_hc (inj := inj0_log_Changed) hi0_log_Changed (fun h => (by cases h)) h)⟩
  · cases h
theorem nx_log_Changed (g : C_log_Changed) : NatSpec (SS_log_Changed (@log_Changed_ g)) := by
  intro args R k
  unfold SS_log_Changed
  split
  · unfold log_Changed_
    rw [Option.bind_assoc]
    exact congrArg (Option.bind _) (funext fun p => (decK_na (inj := inj0_log_Changed) rfl))
  · rfl
theorem ok_log_Changed [Fuel] : Ok 14 (SS_log_Changed (@log_Changed _)) := okR_of std (.cons ok_log_CheckChanges (.cons ok_log_CheckLog (.cons ok_log_key (.cons ok_log_change (.cons ok_slices_SortFunc__Contact_log_Compare .nil))))) ⟨rfl, rfl, by kernel_rfl, rfl, rfl⟩ (sm_log_Changed I_log_Changed) (wh_log_Changed I_log_Changed) (nx_log_Changed I_log_Changed) (cutsR (fun _ => rfl) (.cons lf_log_Changed_L9 (.cons lf_log_Changed_L15 .nil)) (.cons lf_log_Changed_L24 .nil) (by kernel_rfl) (by kernel_rfl)) Tryz.func14 (by kernel_rfl) (by kernel_rfl)
abbrev T_Q_in : Type 1 := Int → Int → Int → {R : Type} → (Bool → Option R) → Option R
def Q_in_ (g : Nat) (a1 a2 a3 : Int) {R : Type} (k0 : Bool → Option R) : Option R :=
  (bif (decide (a2 ≤ a1)) then k0 (decide (a1 ≤ a3)) else k0 false)
noncomputable def Q_in [Fuel] : T_Q_in := @Q_in_ NN
def SS_Q_in (g : T_Q_in) : Spec A := fun args => match args with | [.d (.int .i64 a1), .d (.int .i64 a2), .d (.int .i64 a3)] => fun k => g a1 a2 a3 (fun z0 => k (.d (.bool z0)) [.undef, .undef, .undef]) | _ => fun _ => none
noncomputable def code_86 : Code := (Tryz.f86.body).getD .skip
noncomputable def E_Q_in (g : Nat) : Env A := mkE [] [] [] [] [] [] [] [] [] []
theorem sm_Q_in (g : Nat) : Same (SS_Q_in (@Q_in_ g)) (abody (E_Q_in g) Tryz.f86 code_86 0 [] [.asis] g) := by intro args; unfold SS_Q_in; split; exact .inr fun R k => (by kernel_rfl); exact .inl fun R k => rfl
theorem ok_Q_in [Fuel] : Ok 86 (SS_Q_in (@Q_in _)) := okF_of std .nil ⟨rfl, rfl, by kernel_rfl, rfl, rfl⟩ (sm_Q_in NN) (cuts0 (fun _ => rfl) (by kernel_rfl)) Tryz.func86 (by kernel_rfl) (by kernel_rfl)
abbrev T_Q_Moment : Type 1 := Int → {R : Type} → (Bool → Option R) → Option R
structure C_Q_Moment where
  N : Nat
  Q_in : T_Q_in
def Q_Moment_ (g : C_Q_Moment) (a1 : Int) {R : Type} (k0 : Bool → Option R) : Option R :=
  (g.Q_in a1 0 345686399999 (fun r2 => k0 r2))
noncomputable def I_Q_Moment [Fuel] : C_Q_Moment := ⟨NN, @Q_in _⟩
noncomputable def Q_Moment [Fuel] : T_Q_Moment := @Q_Moment_ I_Q_Moment
def SS_Q_Moment (g : T_Q_Moment) : Spec A := fun args => match args with | [.d (.int .i64 a1)] => fun k => g a1 (fun z0 => k (.d (.bool z0)) [.undef]) | _ => fun _ => none
noncomputable def code_115 : Code := (Tryz.f115.body).getD .skip
noncomputable def E_Q_Moment (g : C_Q_Moment) : Env A := mkE [(86, SS_Q_in g.Q_in)] [] [] [] [] [] [] [] [] []
theorem sm_Q_Moment (g : C_Q_Moment) : Same (SS_Q_Moment (@Q_Moment_ g)) (abody (E_Q_Moment g) Tryz.f115 code_115 0 [] [.asis] g.N) := by intro args; unfold SS_Q_Moment; split; exact .inr fun R k => (by kernel_rfl); exact .inl fun R k => rfl
theorem ok_Q_Moment [Fuel] : Ok 115 (SS_Q_Moment (@Q_Moment _)) := okF_of std (.cons ok_Q_in .nil) ⟨rfl, rfl, by kernel_rfl, rfl, rfl⟩ (sm_Q_Moment I_Q_Moment) (cuts0 (fun _ => rfl) (by kernel_rfl)) Tryz.func115 (by kernel_rfl) (by kernel_rfl)
abbrev T_Q_only : Type 1 := List UInt8 → List UInt8 → {R : Type} → (Bool → Option R) → Option R
structure C_Q_only where
  N : Nat
  strings_IndexByte : T_strings_IndexByte
def Q_only_L2 (g : C_Q_only) : Nat → List UInt8 → List UInt8 → Int → Int → {R : Type} → (Bool → Option R) → Option R → Option R
  | 0, _, _, _, _, _, _, _ => none
  | n + 1, v3, v4, v5, v6, _, e0, e1 => (bif (decide (v6 < v5)) then (get_ v3 v6 fun x9 => (g.strings_IndexByte v4 (x9.toNat : Int) (fun r10 => (bif (decide (r10 < 0)) then e0 false else Q_only_L2 g n v3 v4 v5 (w64 (v6 + 1)) e0 e1)))) else e1)
def Q_only_ (g : C_Q_only) (a1 a2 : List UInt8) {R : Type} (k0 : Bool → Option R) : Option R :=
  (Q_only_L2 g g.N a1 a2 (a1.length : Int) 0 (fun e11 => k0 e11) (k0 true))
noncomputable def I_Q_only [Fuel] : C_Q_only := ⟨NN, @strings_IndexByte _⟩
noncomputable def Q_only [Fuel] : T_Q_only := @Q_only_ I_Q_only
def SS_Q_only (g : T_Q_only) : Spec A := fun args => match args with | [.d (.str a1), .d (.str a2)] => fun k => g a1 a2 (fun z0 => k (.d (.bool z0)) [.undef, .undef]) | _ => fun _ => none
def sh_Q_only_L2 : SSt := mkSh 18 0 [(0, .str), (1, .str), (7, .int .i64), (8, .int .i64)] []
def LP_Q_only_L2 (g : C_Q_only) (n : Nat) : LPT A := fun ps => match ps with | [.d (.str p1), .d (.str p2), .d (.int .i64 p3), .d (.int .i64 p4)] => fun K => Q_only_L2 g n p1 p2 p3 p4 (fun z0 => K .ret (mkSt 18 0 [(4, .d (.bool z0))] [])) (K (.exit 0) (mkSt 18 0 [] [])) | _ => fun _ => none
noncomputable def code_181 : Code := (Tryz.f181.body).getD .skip
noncomputable def E_Q_only (g : C_Q_only) : Env A := mkE [(185, SS_strings_IndexByte g.strings_IndexByte)] [] [(2, ⟨[0, 1, 7, 8], [], [], []⟩)] [(2, ⟨[4], [], [], []⟩)] [(2, pieceOf sh_Q_only_L2 (LP_Q_only_L2 g g.N))] [] [] [] [] []
theorem ct_Q_only [Fuel] : NatTab (E_Q_only I_Q_only).C := ct_of (P := Tryz.prog) (T := T) (.cons ok_strings_IndexByte .nil) (by kernel_rfl)
noncomputable def cb_Q_only_L2 : Code := sub [1, 0, 1, 0, 0] code_181
theorem s_Q_only_L2 (g : C_Q_only) (n : Nat) : StepOk (E_Q_only g) g.N cb_Q_only_L2 sh_Q_only_L2 (LP_Q_only_L2 g) n := by intro ps; unfold LP_Q_only_L2; split; exact .inr fun R K => (by kernel_rfl); exact .inl fun R K => rfl
theorem lf_Q_only_L2 [Fuel] : LoopFine (E_Q_only I_Q_only) NN cb_Q_only_L2 := fine_loop sh_Q_only_L2 (LP_Q_only_L2 I_Q_only) (by kernel_rfl) ct_Q_only (cuts0 (fun _ => rfl) (by kernel_rfl)) (fun ps R K => by unfold LP_Q_only_L2; split <;> (try unfold Q_only_L2) <;> rfl) (s_Q_only_L2 I_Q_only)
theorem sm_Q_only (g : C_Q_only) : Same (SS_Q_only (@Q_only_ g)) (abody (E_Q_only g) Tryz.f181 code_181 0 [] [.asis] g.N) := by intro args; unfold SS_Q_only; split; exact .inr fun R k => (by kernel_rfl); exact .inl fun R k => rfl
theorem ok_Q_only [Fuel] : Ok 181 (SS_Q_only (@Q_only _)) := okF_of std (.cons ok_strings_IndexByte .nil) ⟨rfl, rfl, by kernel_rfl, rfl, rfl⟩ (sm_Q_only I_Q_only) (cutsL (fun _ => rfl) (.cons lf_Q_only_L2 .nil) (by kernel_rfl)) Tryz.func181 (by kernel_rfl) (by kernel_rfl)
abbrev T_Q_Key : Type 1 := List UInt8 → {R : Type} → (Bool → Option R) → Option R
structure C_Q_Key where
  N : Nat
  Q_in : T_Q_in
  Q_only : T_Q_only
def Q_Key_ (g : C_Q_Key) (a1 : List UInt8) {R : Type} (k0 : Bool → Option R) : Option R :=
  (g.Q_in (a1.length : Int) 1 40 (fun r2 => (bif r2 then (bif (decide (0 ≤ 1) && decide (1 ≤ (a1.length : Int))) then (g.Q_only (a1.take (1 : Int).toNat) [97, 98, 99, 100, 101, 102, 103, 104, 105, 106, 107, 108, 109, 110, 111, 112, 113, 114, 115, 116, 117, 118, 119, 120, 121, 122] (fun r3 => (bif r3 then (g.Q_only a1 [97, 98, 99, 100, 101, 102, 103, 104, 105, 106, 107, 108, 109, 110, 111, 112, 113, 114, 115, 116, 117, 118, 119, 120, 121, 122, 48, 49, 50, 51, 52, 53, 54, 55, 56, 57, 45, 95] (fun r4 => k0 r4)) else k0 false))) else none) else k0 false)))
noncomputable def I_Q_Key [Fuel] : C_Q_Key := ⟨NN, @Q_in _, @Q_only _⟩
noncomputable def Q_Key [Fuel] : T_Q_Key := @Q_Key_ I_Q_Key
def SS_Q_Key (g : T_Q_Key) : Spec A := fun args => match args with | [.d (.str a1)] => fun k => g a1 (fun z0 => k (.d (.bool z0)) [.undef]) | _ => fun _ => none
noncomputable def code_117 : Code := (Tryz.f117.body).getD .skip
noncomputable def E_Q_Key (g : C_Q_Key) : Env A := mkE [(86, SS_Q_in g.Q_in), (181, SS_Q_only g.Q_only)] [] [] [] [] [] [] [] [] []
theorem sm_Q_Key (g : C_Q_Key) : Same (SS_Q_Key (@Q_Key_ g)) (abody (E_Q_Key g) Tryz.f117 code_117 0 [] [.asis] g.N) := by intro args; unfold SS_Q_Key; split; exact .inr fun R k => (by kernel_rfl); exact .inl fun R k => rfl
theorem ok_Q_Key [Fuel] : Ok 117 (SS_Q_Key (@Q_Key _)) := okF_of std (.cons ok_Q_in (.cons ok_Q_only .nil)) ⟨rfl, rfl, by kernel_rfl, rfl, rfl⟩ (sm_Q_Key I_Q_Key) (cuts0 (fun _ => rfl) (by kernel_rfl)) Tryz.func117 (by kernel_rfl) (by kernel_rfl)
abbrev T_R_in : Type 1 := Int → Int → Int → {R : Type} → (Bool → Option R) → Option R
def R_in_ (g : Nat) (a1 a2 a3 : Int) {R : Type} (k0 : Bool → Option R) : Option R :=
  (bif (decide (a2 ≤ a1)) then k0 (decide (a1 ≤ a3)) else k0 false)
noncomputable def R_in [Fuel] : T_R_in := @R_in_ NN
def SS_R_in (g : T_R_in) : Spec A := fun args => match args with | [.d (.int .i64 a1), .d (.int .i64 a2), .d (.int .i64 a3)] => fun k => g a1 a2 a3 (fun z0 => k (.d (.bool z0)) [.undef, .undef, .undef]) | _ => fun _ => none
noncomputable def code_309 : Code := (Tryz.f309.body).getD .skip
noncomputable def E_R_in (g : Nat) : Env A := mkE [] [] [] [] [] [] [] [] [] []
theorem sm_R_in (g : Nat) : Same (SS_R_in (@R_in_ g)) (abody (E_R_in g) Tryz.f309 code_309 0 [] [.asis] g) := by intro args; unfold SS_R_in; split; exact .inr fun R k => (by kernel_rfl); exact .inl fun R k => rfl
theorem ok_R_in [Fuel] : Ok 309 (SS_R_in (@R_in _)) := okF_of std .nil ⟨rfl, rfl, by kernel_rfl, rfl, rfl⟩ (sm_R_in NN) (cuts0 (fun _ => rfl) (by kernel_rfl)) Tryz.func309 (by kernel_rfl) (by kernel_rfl)
abbrev T_strings_ContainsAny : Type 1 := List UInt8 → List UInt8 → {R : Type} → (Bool → Option R) → Option R
def strings_ContainsAny [Fuel] : T_strings_ContainsAny := @X_cany
def SS_strings_ContainsAny (g : T_strings_ContainsAny) : Spec A := SSX_cany g
theorem ok_strings_ContainsAny [Fuel] : Ok 310 (SS_strings_ContainsAny (@strings_ContainsAny _)) := ⟨ssx_cany_sound (cany_sound rfl (fun s cs w h1 h2 h3 h4 => Any.strings_ContainsAny_laid Tryz.lays150 (by kernel_rfl) s cs w h1 h2 h3 h4)), ssx_cany_nat, enters_of (fn := Tryz.f310) Tryz.func310 (by kernel_rfl) (by kernel_rfl)⟩
abbrev T_R_plain : Type 1 := List UInt8 → Int → Int → {R : Type} → (Bool → Option R) → Option R
structure C_R_plain where
  N : Nat
  strings_Trim : T_strings_Trim
  R_in : T_R_in
  strings_ContainsAny : T_strings_ContainsAny
def R_plain_ (g : C_R_plain) (a1 : List UInt8) (a2 a3 : Int) {R : Type} (k0 : Bool → Option R) : Option R :=
  (g.R_in (a1.length : Int) a2 a3 (fun r4 => (bif r4 then (g.strings_Trim a1 [97, 98, 99, 100, 101, 102, 103, 104, 105, 106, 107, 108, 109, 110, 111, 112, 113, 114, 115, 116, 117, 118, 119, 120, 121, 122, 48, 49, 50, 51, 52, 53, 54, 55, 56, 57] (fun r5 => (bif (r5 == []) then (g.strings_ContainsAny a1 [97, 98, 99, 100, 101, 102, 103, 104, 105, 106, 107, 108, 109, 110, 111, 112, 113, 114, 115, 116, 117, 118, 119, 120, 121, 122] (fun r6 => k0 r6)) else k0 false))) else k0 false)))
noncomputable def I_R_plain [Fuel] : C_R_plain := ⟨NN, @strings_Trim _, @R_in _, @strings_ContainsAny _⟩
noncomputable def R_plain [Fuel] : T_R_plain := @R_plain_ I_R_plain
def SS_R_plain (g : T_R_plain) : Spec A := fun args => match args with | [.d (.str a1), .d (.int .i64 a2), .d (.int .i64 a3)] => fun k => g a1 a2 a3 (fun z0 => k (.d (.bool z0)) [.undef, .undef, .undef]) | _ => fun _ => none
noncomputable def code_308 : Code := (Tryz.f308.body).getD .skip
noncomputable def E_R_plain (g : C_R_plain) : Env A := mkE [(186, SS_strings_Trim g.strings_Trim), (309, SS_R_in g.R_in), (310, SS_strings_ContainsAny g.strings_ContainsAny)] [] [] [] [] [] [] [] [] []
theorem sm_R_plain (g : C_R_plain) : Same (SS_R_plain (@R_plain_ g)) (abody (E_R_plain g) Tryz.f308 code_308 0 [] [.asis] g.N) := by intro args; unfold SS_R_plain; split; exact .inr fun R k => (by kernel_rfl); exact .inl fun R k => rfl
theorem ok_R_plain [Fuel] : Ok 308 (SS_R_plain (@R_plain _)) := okF_of std (.cons ok_strings_Trim (.cons ok_R_in (.cons ok_strings_ContainsAny .nil))) ⟨rfl, rfl, by kernel_rfl, rfl, rfl⟩ (sm_R_plain I_R_plain) (cuts0 (fun _ => rfl) (by kernel_rfl)) Tryz.func308 (by kernel_rfl) (by kernel_rfl)
abbrev T_R_baseAt : Type 1 := List UInt8 → {R : Type} → (Int → Option R) → Option R
structure C_R_baseAt where
  N : Nat
  strings_LastIndexAny : T_strings_LastIndexAny
  R_plain : T_R_plain
  R_in : T_R_in
  strings_ContainsAny : T_strings_ContainsAny
def R_baseAt_ (g : C_R_baseAt) (a1 : List UInt8) {R : Type} (k0 : Int → Option R) : Option R :=
  (g.strings_LastIndexAny a1 [48, 49, 50, 51, 52, 53, 54, 55, 56, 57] (fun r2 => (g.R_plain a1 3 10 (fun r3 => (bif (!r3) then k0 (-1) else (g.R_in r2 1 3 (fun r4 => (bif (!r4) then k0 (-1) else (g.R_in (w64 ((w64 ((a1.length : Int) - 1)) - r2)) 1 4 (fun r5 => (bif (!r5) then k0 (-1) else (bif (decide (0 ≤ r2) && decide (r2 ≤ (a1.length : Int))) then (g.strings_ContainsAny (a1.take (r2 : Int).toNat) [97, 98, 99, 100, 101, 102, 103, 104, 105, 106, 107, 108, 109, 110, 111, 112, 113, 114, 115, 116, 117, 118, 119, 120, 121, 122] (fun r6 => (bif (!r6) then k0 (-1) else k0 r2))) else none))))))))))))
noncomputable def I_R_baseAt [Fuel] : C_R_baseAt := ⟨NN, @strings_LastIndexAny _, @R_plain _, @R_in _, @strings_ContainsAny _⟩
noncomputable def R_baseAt [Fuel] : T_R_baseAt := @R_baseAt_ I_R_baseAt
def SS_R_baseAt (g : T_R_baseAt) : Spec A := fun args => match args with | [.d (.str a1)] => fun k => g a1 (fun z0 => k (.d (.int .i64 z0)) [.undef]) | _ => fun _ => none
noncomputable def code_250 : Code := (Tryz.f250.body).getD .skip
noncomputable def E_R_baseAt (g : C_R_baseAt) : Env A := mkE [(307, SS_strings_LastIndexAny g.strings_LastIndexAny), (308, SS_R_plain g.R_plain), (309, SS_R_in g.R_in), (310, SS_strings_ContainsAny g.strings_ContainsAny)] [] [] [] [] [] [] [] [] []
theorem sm_R_baseAt (g : C_R_baseAt) : Same (SS_R_baseAt (@R_baseAt_ g)) (abody (E_R_baseAt g) Tryz.f250 code_250 0 [] [.asis] g.N) := by intro args; unfold SS_R_baseAt; split; exact .inr fun R k => (by kernel_rfl); exact .inl fun R k => rfl
theorem ok_R_baseAt [Fuel] : Ok 250 (SS_R_baseAt (@R_baseAt _)) := okF_of std (.cons ok_strings_LastIndexAny (.cons ok_R_plain (.cons ok_R_in (.cons ok_strings_ContainsAny .nil)))) ⟨rfl, rfl, by kernel_rfl, rfl, rfl⟩ (sm_R_baseAt I_R_baseAt) (cuts0 (fun _ => rfl) (by kernel_rfl)) Tryz.func250 (by kernel_rfl) (by kernel_rfl)
abbrev T_R_PartsOf_1 : Type 1 := List UInt8 → {R : Type} → (G_Parts → Option R) → Option R
structure C_R_PartsOf_1 where
  N : Nat
  R_baseAt : T_R_baseAt
def R_PartsOf_1_ (g : C_R_PartsOf_1) (a1 : List UInt8) {R : Type} (k0 : G_Parts → Option R) : Option R :=
  (g.R_baseAt a1 (fun r2 => (bif (decide (0 ≤ (w64 (r2 + 1))) && decide ((w64 (r2 + 1)) ≤ (a1.length : Int))) then (bif (decide (0 ≤ (w64 (r2 + 1))) && decide ((w64 (r2 + 1)) ≤ (a1.length : Int))) then k0 (⟨a1, (a1.take ((w64 (r2 + 1)) : Int).toNat), (a1.drop ((w64 (r2 + 1)) : Int).toNat), 0, []⟩ : G_Parts) else none) else none)))
noncomputable def I_R_PartsOf_1 [Fuel] : C_R_PartsOf_1 := ⟨NN, @R_baseAt _⟩
noncomputable def R_PartsOf_1 [Fuel] : T_R_PartsOf_1 := @R_PartsOf_1_ I_R_PartsOf_1
def SS_R_PartsOf_1 (g : T_R_PartsOf_1) : Spec A := fun args => match args with | [.d (.str a1)] => fun k => g a1 (fun z0 => k (.agg [.d (.str z0.f_Base), .d (.str z0.f_Prefix), .d (.str z0.f_Suffix), .d (.int .i64 z0.f_Kind), .d (.str z0.f_Added)]) [.undef]) | _ => fun _ => none
noncomputable def code_249 : Code := (Tryz.f249.body).getD .skip
noncomputable def E_R_PartsOf_1 (g : C_R_PartsOf_1) : Env A := mkE [(250, SS_R_baseAt g.R_baseAt)] [(2, [0])] [] [] [] [] [] [] [] []
theorem sm_R_PartsOf_1 (g : C_R_PartsOf_1) : Same (SS_R_PartsOf_1 (@R_PartsOf_1_ g)) (abody (E_R_PartsOf_1 g) Tryz.f249 code_249 1 [] [.asis] g.N) := by intro args; unfold SS_R_PartsOf_1; split; exact .inr fun R k => (by kernel_rfl); exact .inl fun R k => rfl
theorem ok_R_PartsOf_1 [Fuel] : Ok 249 (SS_R_PartsOf_1 (@R_PartsOf_1 _)) := okF_of std (.cons ok_R_baseAt .nil) ⟨rfl, rfl, by kernel_rfl, rfl, rfl⟩ (sm_R_PartsOf_1 I_R_PartsOf_1) (cuts0 (fun _ => rfl) (by kernel_rfl)) Tryz.func249 (by kernel_rfl) (by kernel_rfl)
abbrev T_R_begin : Type 1 := List UInt8 → {R : Type} → (Bool → Option R) → Option R
structure C_R_begin where
  N : Nat
  R_plain : T_R_plain
def R_begin_ (g : C_R_begin) (a1 : List UInt8) {R : Type} (k0 : Bool → Option R) : Option R :=
  (g.R_plain a1 1 4 (fun r2 => k0 r2))
noncomputable def I_R_begin [Fuel] : C_R_begin := ⟨NN, @R_plain _⟩
noncomputable def R_begin [Fuel] : T_R_begin := @R_begin_ I_R_begin
def SS_R_begin (g : T_R_begin) : Spec A := fun args => match args with | [.d (.str a1)] => fun k => g a1 (fun z0 => k (.d (.bool z0)) [.undef]) | _ => fun _ => none
noncomputable def code_251 : Code := (Tryz.f251.body).getD .skip
noncomputable def E_R_begin (g : C_R_begin) : Env A := mkE [(308, SS_R_plain g.R_plain)] [] [] [] [] [] [] [] [] []
theorem sm_R_begin (g : C_R_begin) : Same (SS_R_begin (@R_begin_ g)) (abody (E_R_begin g) Tryz.f251 code_251 0 [] [.asis] g.N) := by intro args; unfold SS_R_begin; split; exact .inr fun R k => (by kernel_rfl); exact .inl fun R k => rfl
theorem ok_R_begin [Fuel] : Ok 251 (SS_R_begin (@R_begin _)) := okF_of std (.cons ok_R_plain .nil) ⟨rfl, rfl, by kernel_rfl, rfl, rfl⟩ (sm_R_begin I_R_begin) (cuts0 (fun _ => rfl) (by kernel_rfl)) Tryz.func251 (by kernel_rfl) (by kernel_rfl)
abbrev T_strings_Index : Type 1 := List UInt8 → List UInt8 → {R : Type} → (Int → Option R) → Option R
structure C_strings_Index where
  N : Nat
  stringslite_Index : T_stringslite_Index
def strings_Index_ (g : C_strings_Index) (a1 a2 : List UInt8) {R : Type} (k0 : Int → Option R) : Option R :=
  (g.stringslite_Index a1 a2 (fun r3 => k0 r3))
noncomputable def I_strings_Index [Fuel] : C_strings_Index := ⟨NN, @stringslite_Index _⟩
noncomputable def strings_Index [Fuel] : T_strings_Index := @strings_Index_ I_strings_Index
def SS_strings_Index (g : T_strings_Index) : Spec A := fun args => match args with | [.d (.str a1), .d (.str a2)] => fun k => g a1 a2 (fun z0 => k (.d (.int .i64 z0)) [.undef, .undef]) | _ => fun _ => none
noncomputable def code_311 : Code := (Tryz.f311.body).getD .skip
noncomputable def E_strings_Index (g : C_strings_Index) : Env A := mkE [(345, SS_stringslite_Index g.stringslite_Index)] [] [] [] [] [] [] [] [] []
theorem sm_strings_Index (g : C_strings_Index) : Same (SS_strings_Index (@strings_Index_ g)) (abody (E_strings_Index g) Tryz.f311 code_311 0 [] [.asis] g.N) := by intro args; unfold SS_strings_Index; split; exact .inr fun R k => (by kernel_rfl); exact .inl fun R k => rfl
theorem ok_strings_Index [Fuel] : Ok 311 (SS_strings_Index (@strings_Index _)) := okF_of std (.cons ok_stringslite_Index .nil) ⟨rfl, rfl, by kernel_rfl, rfl, rfl⟩ (sm_strings_Index I_strings_Index) (cuts0 (fun _ => rfl) (by kernel_rfl)) Tryz.func311 (by kernel_rfl) (by kernel_rfl)
abbrev T_strings_Contains : Type 1 := List UInt8 → List UInt8 → {R : Type} → (Bool → Option R) → Option R
structure C_strings_Contains where
  N : Nat
  strings_Index : T_strings_Index
def strings_Contains_ (g : C_strings_Contains) (a1 a2 : List UInt8) {R : Type} (k0 : Bool → Option R) : Option R :=
  (g.strings_Index a1 a2 (fun r3 => k0 (decide (r3 ≥ 0))))
noncomputable def I_strings_Contains [Fuel] : C_strings_Contains := ⟨NN, @strings_Index _⟩
noncomputable def strings_Contains [Fuel] : T_strings_Contains := @strings_Contains_ I_strings_Contains
def SS_strings_Contains (g : T_strings_Contains) : Spec A := fun args => match args with | [.d (.str a1), .d (.str a2)] => fun k => g a1 a2 (fun z0 => k (.d (.bool z0)) [.undef, .undef]) | _ => fun _ => none
noncomputable def code_252 : Code := (Tryz.f252.body).getD .skip
noncomputable def E_strings_Contains (g : C_strings_Contains) : Env A := mkE [(311, SS_strings_Index g.strings_Index)] [] [] [] [] [] [] [] [] []
theorem sm_strings_Contains (g : C_strings_Contains) : Same (SS_strings_Contains (@strings_Contains_ g)) (abody (E_strings_Contains g) Tryz.f252 code_252 0 [] [.asis] g.N) := by intro args; unfold SS_strings_Contains; split; exact .inr fun R k => (by kernel_rfl); exact .inl fun R k => rfl
theorem ok_strings_Contains [Fuel] : Ok 252 (SS_strings_Contains (@strings_Contains _)) := okF_of std (.cons ok_strings_Index .nil) ⟨rfl, rfl, by kernel_rfl, rfl, rfl⟩ (sm_strings_Contains I_strings_Contains) (cuts0 (fun _ => rfl) (by kernel_rfl)) Tryz.func252 (by kernel_rfl) (by kernel_rfl)
abbrev T_R_PartsOf : Type 1 := List UInt8 → {R : Type} → (G_Parts → Bool → Option R) → Option R
structure C_R_PartsOf where
  N : Nat
  strings_Cut : T_strings_Cut
  R_PartsOf_1 : T_R_PartsOf_1
  R_baseAt : T_R_baseAt
  R_begin : T_R_begin
  strings_Contains : T_strings_Contains
def R_PartsOf_ (g : C_R_PartsOf) (a1 : List UInt8) {R : Type} (k0 : G_Parts → Bool → Option R) : Option R :=
  (g.strings_Cut a1 [47] (fun r2 r3 r4 => (bif (decide ((a1.length : Int) > 14)) then k0 (⟨[], [], [], 0, []⟩ : G_Parts) false else (bif (!r4) then (g.R_baseAt r2 (fun r5 => (bif (decide (r5 < 0)) then k0 (⟨[], [], [], 0, []⟩ : G_Parts) false else (g.R_PartsOf_1 r2 (fun r6 => k0 r6 true))))) else (g.R_baseAt r3 (fun r7 => (bif (decide (r7 ≥ 0)) then (g.R_begin r2 (fun r8 => (bif r8 then (g.R_PartsOf_1 r3 (fun r9 => k0 (⟨r9.f_Base, r9.f_Prefix, r9.f_Suffix, 1, r2⟩ : G_Parts) true)) else (g.R_baseAt r2 (fun r10 => (bif (decide (r10 < 0)) then k0 (⟨[], [], [], 0, []⟩ : G_Parts) false else (g.R_PartsOf_1 r2 (fun r11 => (bif (r3 == [112]) then k0 (⟨r11.f_Base, r11.f_Prefix, r11.f_Suffix, 3, r11.f_Added⟩ : G_Parts) true else (bif (r3 == [109]) then k0 (⟨r11.f_Base, r11.f_Prefix, r11.f_Suffix, 4, r11.f_Added⟩ : G_Parts) true else (bif (r3 == [109, 109]) then k0 (⟨r11.f_Base, r11.f_Prefix, r11.f_Suffix, 5, r11.f_Added⟩ : G_Parts) true else (bif (r3 == [97, 109]) then k0 (⟨r11.f_Base, r11.f_Prefix, r11.f_Suffix, 6, r11.f_Added⟩ : G_Parts) true else (bif ((r3.length : Int) == 1) then (g.strings_Contains [48, 49, 50, 51, 52, 53, 54, 55, 56, 57] r3 (fun r12 => (bif r12 then k0 (⟨r11.f_Base, r11.f_Prefix, r11.f_Suffix, 2, r3⟩ : G_Parts) true else (g.R_begin r3 (fun r13 => (bif r13 then k0 (⟨r11.f_Base, r11.f_Prefix, r11.f_Suffix, 1, r3⟩ : G_Parts) true else k0 (⟨[], [], [], 0, []⟩ : G_Parts) false)))))) else (g.R_begin r3 (fun r14 => (bif r14 then k0 (⟨r11.f_Base, r11.f_Prefix, r11.f_Suffix, 1, r3⟩ : G_Parts) true else k0 (⟨[], [], [], 0, []⟩ : G_Parts) false)))))))))))))))) else (g.R_baseAt r2 (fun r15 => (bif (decide (r15 < 0)) then k0 (⟨[], [], [], 0, []⟩ : G_Parts) false else (g.R_PartsOf_1 r2 (fun r16 => (bif (r3 == [112]) then k0 (⟨r16.f_Base, r16.f_Prefix, r16.f_Suffix, 3, r16.f_Added⟩ : G_Parts) true else (bif (r3 == [109]) then k0 (⟨r16.f_Base, r16.f_Prefix, r16.f_Suffix, 4, r16.f_Added⟩ : G_Parts) true else (bif (r3 == [109, 109]) then k0 (⟨r16.f_Base, r16.f_Prefix, r16.f_Suffix, 5, r16.f_Added⟩ : G_Parts) true else (bif (r3 == [97, 109]) then k0 (⟨r16.f_Base, r16.f_Prefix, r16.f_Suffix, 6, r16.f_Added⟩ : G_Parts) true else (bif ((r3.length : Int) == 1) then (g.strings_Contains [48, 49, 50, 51, 52, 53, 54, 55, 56, 57] r3 (fun r17 => (bif r17 then k0 (⟨r16.f_Base, r16.f_Prefix, r16.f_Suffix, 2, r3⟩ : G_Parts) true else (g.R_begin r3 (fun r18 => (bif r18 then k0 (⟨r16.f_Base, r16.f_Prefix, r16.f_Suffix, 1, r3⟩ : G_Parts) true else k0 (⟨[], [], [], 0, []⟩ : G_Parts) false)))))) else (g.R_begin r3 (fun r19 => (bif r19 then k0 (⟨r16.f_Base, r16.f_Prefix, r16.f_Suffix, 1, r3⟩ : G_Parts) true else k0 (⟨[], [], [], 0, []⟩ : G_Parts) false))))))))))))))))))))
noncomputable def I_R_PartsOf [Fuel] : C_R_PartsOf := ⟨NN, @strings_Cut _, @R_PartsOf_1 _, @R_baseAt _, @R_begin _, @strings_Contains _⟩
noncomputable def R_PartsOf [Fuel] : T_R_PartsOf := @R_PartsOf_ I_R_PartsOf
def SS_R_PartsOf (g : T_R_PartsOf) : Spec A := fun args => match args with | [.d (.str a1)] => fun k => g a1 (fun z0 z1 => k (.tup [.agg [.d (.str z0.f_Base), .d (.str z0.f_Prefix), .d (.str z0.f_Suffix), .d (.int .i64 z0.f_Kind), .d (.str z0.f_Added)], .d (.bool z1)]) [.undef]) | _ => fun _ => none
noncomputable def code_180 : Code := (Tryz.f180.body).getD .skip
noncomputable def E_R_PartsOf (g : C_R_PartsOf) : Env A := mkE [(248, SS_strings_Cut g.strings_Cut), (249, SS_R_PartsOf_1 g.R_PartsOf_1), (250, SS_R_baseAt g.R_baseAt), (251, SS_R_begin g.R_begin), (252, SS_strings_Contains g.strings_Contains)] [(2, [0]), (8, [1]), (9, [2])] [] [] [] [] [] [] [] []
theorem sm_R_PartsOf (g : C_R_PartsOf) : Same (SS_R_PartsOf (@R_PartsOf_ g)) (abody (E_R_PartsOf g) Tryz.f180 code_180 3 [] [.asis, .asis] g.N) := by intro args; unfold SS_R_PartsOf; split; exact .inr fun R k => (by kernel_rfl); exact .inl fun R k => rfl
theorem ok_R_PartsOf [Fuel] : Ok 180 (SS_R_PartsOf (@R_PartsOf _)) := okF_of std (.cons ok_strings_Cut (.cons ok_R_PartsOf_1 (.cons ok_R_baseAt (.cons ok_R_begin (.cons ok_strings_Contains .nil))))) ⟨rfl, rfl, by kernel_rfl, rfl, rfl⟩ (sm_R_PartsOf I_R_PartsOf) (cuts0 (fun _ => rfl) (by kernel_rfl)) Tryz.func180 (by kernel_rfl) (by kernel_rfl)
abbrev T_Q_Call : Type 1 := List UInt8 → {R : Type} → (Bool → Option R) → Option R
structure C_Q_Call where
  N : Nat
  R_PartsOf : T_R_PartsOf
def Q_Call_ (g : C_Q_Call) (a1 : List UInt8) {R : Type} (k0 : Bool → Option R) : Option R :=
  (g.R_PartsOf a1 (fun r2 r3 => k0 r3))
noncomputable def I_Q_Call [Fuel] : C_Q_Call := ⟨NN, @R_PartsOf _⟩
noncomputable def Q_Call [Fuel] : T_Q_Call := @Q_Call_ I_Q_Call
def SS_Q_Call (g : T_Q_Call) : Spec A := fun args => match args with | [.d (.str a1)] => fun k => g a1 (fun z0 => k (.d (.bool z0)) [.undef]) | _ => fun _ => none
noncomputable def code_116 : Code := (Tryz.f116.body).getD .skip
noncomputable def E_Q_Call (g : C_Q_Call) : Env A := mkE [(180, SS_R_PartsOf g.R_PartsOf)] [(3, [0])] [] [] [] [] [] [] [] []
theorem sm_Q_Call (g : C_Q_Call) : Same (SS_Q_Call (@Q_Call_ g)) (abody (E_Q_Call g) Tryz.f116 code_116 1 [] [.asis] g.N) := by intro args; unfold SS_Q_Call; split; exact .inr fun R k => (by kernel_rfl); exact .inl fun R k => rfl
theorem ok_Q_Call [Fuel] : Ok 116 (SS_Q_Call (@Q_Call _)) := okF_of std (.cons ok_R_PartsOf .nil) ⟨rfl, rfl, by kernel_rfl, rfl, rfl⟩ (sm_Q_Call I_Q_Call) (cuts0 (fun _ => rfl) (by kernel_rfl)) Tryz.func116 (by kernel_rfl) (by kernel_rfl)
end Go.Am
