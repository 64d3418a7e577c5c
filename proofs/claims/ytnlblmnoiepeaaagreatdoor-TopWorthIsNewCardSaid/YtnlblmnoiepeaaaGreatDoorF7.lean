/- The functions of the program as Lean functions, each shown to be what the code computes, part 7. No condition: lemmas for the claim. -/
import Derived.Test.YtnlblmnoiepeaaaGreatDoorF0
import Derived.Test.YtnlblmnoiepeaaaGreatDoorFSh
import Derived.Test.YtnlblmnoiepeaaaGreatDoorF2
import Derived.Test.YtnlblmnoiepeaaaGreatDoorF5
import Derived.Test.YtnlblmnoiepeaaaGreatDoorF6
set_option linter.unusedVariables false
set_option maxRecDepth 100000
namespace Go.Am
open Go Go.Proofs
abbrev T_log_At_1 : Type 1 := G_Band → Int → {R : Type} → (Bool → Int → Option R) → Option R
def log_At_1_ (g : Nat) (a1 : G_Band) (a2 : Int) {R : Type} (k0 : Bool → Int → Option R) : Option R :=
 (bif (decide (a1.f_Low ≤ a2)) then k0 (decide (a2 < a1.f_High)) a2 else k0 false a2)
noncomputable def log_At_1 [Fuel] : T_log_At_1 := @log_At_1_ NN
def SS_log_At_1 (g : T_log_At_1) : Spec A := fun args => match args with | [.agg [.d (.str a1), .d (.int .i64 a2), .d (.int .i64 a3)], .box [.d (.int .i64 a4)]] => fun k => g ⟨a1, a2, a3⟩ a4 (fun z0 z1 => k (.d (.bool z0)) [.undef, .box [.d (.int .i64 z1)]]) | _ => fun _ => none
noncomputable def code_84 : Code := (Tryz.f84.body).getD .skip
noncomputable def E_log_At_1 (g : Nat) : Env A := mkE [] [(2, [1])] [] [] [] [] [] [] [] [1]
theorem sm_log_At_1 (g : Nat) : Same (SS_log_At_1 (@log_At_1_ g)) (abody (E_log_At_1 g) Tryz.f84 code_84 2 [0] [.asis] g) := by intro args; unfold SS_log_At_1; split; exact .inr fun R k => (by kernel_rfl); exact .inl fun R k => rfl
theorem ok_log_At_1 [Fuel] : Ok 84 (SS_log_At_1 (@log_At_1 _)) := okF_of std .nil ⟨rfl, rfl, by kernel_rfl, rfl, rfl, rfl⟩ (sm_log_At_1 NN) (cuts0 (fun _ => rfl) (by kernel_rfl)) Tryz.func84 (by kernel_rfl) (by kernel_rfl)
abbrev T_z16z : Type 1 := List G_Band → Int → {R : Type} → (Int → Int → Option R) → Option R
structure C_z16z where
 N : Nat
 log_At_1 : T_log_At_1
def z16z_L2 (g : C_z16z) : Nat → List G_Band → Int → Int → Int → {R : Type} → (Int → Int → Option R) → (Int → Option R) → Option R
 | 0, _, _, _, _, _, _, _ => none
 | n + 1, v3, v4, v5, v6, _, e0, e1 => (bif (decide (v5 < v4)) then (get_ v3 v5 fun x10 => (g.log_At_1 x10 v6 (fun r11 r12 => (bif r11 then e0 v5 r12 else z16z_L2 g n v3 v4 (w64 (v5 + 1)) r12 e0 e1)))) else e1 v6)
def z16z_ (g : C_z16z) (a1 : List G_Band) (a2 : Int) {R : Type} (k0 : Int → Int → Option R) : Option R :=
 (z16z_L2 g g.N a1 (a1.length : Int) 0 a2 (fun e13 e14 => k0 e13 e14) (fun e15 => k0 (-1) e15))
noncomputable def I_z16z [Fuel] : C_z16z := ⟨NN, @log_At_1 _⟩
noncomputable def z16z [Fuel] : T_z16z := @z16z_ I_z16z
def SS_z16z (g : T_z16z) : Spec A := fun args => match args with | [.d (.sl 62 a1), .fn 84 [.box [.d (.int .i64 a2)]]] => fun k => g a1 a2 (fun z0 z1 => k (.d (.int .i64 z0)) [.undef, .fn 84 [.box [.d (.int .i64 z1)]]]) | _ => fun _ => none
def sh_z16z_L2 : SSt := mkSh 19 1 [(0, .sl 62), (1, .fn 84 [.ptr 0 0]), (7, .int .i64), (8, .int .i64)] [(0, .box [.int .i64])]
def LP_z16z_L2 (g : C_z16z) (n : Nat) : LPT A := fun ps => match ps with | [.d (.sl 62 p1), .d (.int .i64 p2), .d (.int .i64 p3), .d (.int .i64 p4)] => fun K => z16z_L2 g n p1 p2 p3 p4 (fun z0 z1 => K .ret (mkSt 19 1 [(1, .fn 84 [.ptr 0 0]), (4, .d (.int .i64 z0))] [(0, some (.box [.d (.int .i64 z1)]))])) (fun z0 => K (.exit 0) (mkSt 19 1 [(1, .fn 84 [.ptr 0 0])] [(0, some (.box [.d (.int .i64 z0)]))])) | _ => fun _ => none
noncomputable def E_z16z (g : C_z16z) : Env A := mkE [(84, SS_log_At_1 g.log_At_1)] [] [(2, ⟨[0, 1, 7, 8], [], [0], [], [], [], []⟩)] [(2, ⟨[1, 4], [], [0], [], [], [], []⟩)] [(2, pieceOf sh_z16z_L2 (LP_z16z_L2 g g.N))] [] [] [] [] [1]
theorem ct_z16z [Fuel] : NatTab (E_z16z I_z16z).C := ct_of (P := Tryz.prog) (T := T) (.cons ok_log_At_1 .nil) (by kernel_rfl)
noncomputable def cb_z16z_L2 : Code := sub [1, 0, 1, 0, 0] code_83
theorem s_z16z_L2 (g : C_z16z) (n : Nat) : StepOk (E_z16z g) g.N cb_z16z_L2 sh_z16z_L2 (LP_z16z_L2 g) n := by intro ps; unfold LP_z16z_L2; split; exact .inr fun R K => (by kernel_rfl); exact .inl fun R K => rfl
theorem lf_z16z_L2 [Fuel] : LoopFine (E_z16z I_z16z) NN cb_z16z_L2 := fine_loop sh_z16z_L2 (LP_z16z_L2 I_z16z) (by kernel_rfl) ct_z16z (cuts0 (fun _ => rfl) (by kernel_rfl)) (fun ps R K => by unfold LP_z16z_L2; split <;> (try unfold z16z_L2) <;> rfl) (s_z16z_L2 I_z16z)
theorem sm_z16z (g : C_z16z) : Same (SS_z16z (@z16z_ g)) (abody (E_z16z g) Tryz.f83 code_83 1 [0] [.asis] g.N) := by intro args; unfold SS_z16z; split; exact .inr fun R k => (by kernel_rfl); exact .inl fun R k => rfl
theorem ok_z16z [Fuel] : Ok 83 (SS_z16z (@z16z _)) := okF_of std (.cons ok_log_At_1 .nil) ⟨rfl, rfl, by kernel_rfl, rfl, rfl, rfl⟩ (sm_z16z I_z16z) (cutsL (fun _ => rfl) (.cons lf_z16z_L2 .nil) (by kernel_rfl)) Tryz.func83 (by kernel_rfl) (by kernel_rfl)
abbrev T_log_At : Type 1 := List G_Band → Int → {R : Type} → (Int → Option R) → Option R
structure C_log_At where
 N : Nat
 z16z : T_z16z
def log_At_ (g : C_log_At) (a1 : List G_Band) (a2 : Int) {R : Type} (k0 : Int → Option R) : Option R :=
 (g.z16z a1 a2 (fun r3 r4 => k0 r3))
noncomputable def I_log_At [Fuel] : C_log_At := ⟨NN, @z16z _⟩
noncomputable def log_At [Fuel] : T_log_At := @log_At_ I_log_At
def SS_log_At (g : T_log_At) : Spec A := fun args => match args with | [.d (.sl 62 a1), .d (.int .i64 a2)] => fun k => g a1 a2 (fun z0 => k (.d (.int .i64 z0)) [.undef, .undef]) | _ => fun _ => none
noncomputable def code_43 : Code := (Tryz.f43.body).getD .skip
noncomputable def E_log_At (g : C_log_At) : Env A := mkE [(83, SS_z16z g.z16z)] [(3, [0])] [] [] [] [] [] [] [(83, 0)] []
theorem sm_log_At (g : C_log_At) : Same (SS_log_At (@log_At_ g)) (abody (E_log_At g) Tryz.f43 code_43 1 [] [.asis] g.N) := by intro args; unfold SS_log_At; split; exact .inr fun R k => (by kernel_rfl); exact .inl fun R k => rfl
theorem ok_log_At [Fuel] : Ok 43 (SS_log_At (@log_At _)) := okF_of std (.cons ok_z16z .nil) ⟨rfl, rfl, by kernel_rfl, rfl, rfl, rfl⟩ (sm_log_At I_log_At) (cuts0 (fun _ => rfl) (by kernel_rfl)) Tryz.func43 (by kernel_rfl) (by kernel_rfl)
abbrev T_z47z : Type 1 := List G_Spot → {R : Type} → (List G_Spot → Option R) → Option R
def z47z_L1 (g : Nat) : Nat → Int → Int → List G_Spot → {R : Type} → (List G_Spot → Option R) → Option R
 | 0, _, _, _, _, _ => none
 | n + 1, v2, v3, v4, _, e0 => (bif (decide (v2 < v3)) then (inr v4 v3 (at_ v4 v3 fun x9 => (inr v4 v2 (at_ v4 v2 fun x10 => (inr v4 v2 (at_ v4 v2 fun x11 => (inr (set_ v4 v2 x9) v3 (at_ (set_ v4 v2 x9) v3 fun x12 => z47z_L1 g n (w64 (v2 + 1)) (w64 (v3 - 1)) (set_ (set_ v4 v2 x9) v3 x10) e0)))))))) else e0 v4)
def z47z_ (g : Nat) (a1 : List G_Spot) {R : Type} (k0 : List G_Spot → Option R) : Option R :=
 (z47z_L1 g g 0 (w64 ((a1.length : Int) - 1)) a1 (fun e13 => k0 e13))
noncomputable def z47z [Fuel] : T_z47z := @z47z_ NN
def SS_z47z (g : T_z47z) : Spec A := fun args => match args with | [.arr 42 a1] => fun k => g a1 (fun z0 => k (.tup []) [.arr 42 z0]) | _ => fun _ => none
def sh_z47z_L1 : SSt := mkSh 28 1 [(0, .own 42 0), (2, .int .i64), (3, .int .i64)] [(0, .row 42)]
def LP_z47z_L1 (g : Nat) (n : Nat) : LPT A := fun ps => match ps with | [.d (.int .i64 p1), .d (.int .i64 p2), .d (.sl 42 p3)] => fun K => z47z_L1 g n p1 p2 p3 (fun z0 => K (.exit 0) (mkSt 28 1 [(0, .own 42 0)] [(0, some (.row 42 z0))])) | _ => fun _ => none
noncomputable def code_77 : Code := (Tryz.f77.body).getD .skip
noncomputable def E_z47z (g : Nat) : Env A := mkE [] [] [(1, ⟨[0, 2, 3], [], [0], [], [], [], []⟩)] [(1, ⟨[0], [], [0], [], [], [], []⟩)] [(1, pieceOf sh_z47z_L1 (LP_z47z_L1 g g))] [] [] [] [] [0]
theorem ct_z47z [Fuel] : NatTab (E_z47z NN).C := ct_of (P := Tryz.prog) (T := T) .nil (by kernel_rfl)
noncomputable def cb_z47z_L1 : Code := sub [1, 0, 0] code_77
theorem s_z47z_L1 (g : Nat) (n : Nat) : StepOk (E_z47z g) g cb_z47z_L1 sh_z47z_L1 (LP_z47z_L1 g) n := by intro ps; unfold LP_z47z_L1; split; exact .inr fun R K => (by kernel_rfl); exact .inl fun R K => rfl
theorem lf_z47z_L1 [Fuel] : LoopFine (E_z47z NN) NN cb_z47z_L1 := fine_loop sh_z47z_L1 (LP_z47z_L1 NN) (by kernel_rfl) ct_z47z (cuts0 (fun _ => rfl) (by kernel_rfl)) (fun ps R K => by unfold LP_z47z_L1; split <;> (try unfold z47z_L1) <;> rfl) (s_z47z_L1 NN)
theorem sm_z47z (g : Nat) : Same (SS_z47z (@z47z_ g)) (abody (E_z47z g) Tryz.f77 code_77 1 [0] [] g) := by intro args; unfold SS_z47z; split; exact .inr fun R k => (by kernel_rfl); exact .inl fun R k => rfl
theorem ok_z47z [Fuel] : Ok 77 (SS_z47z (@z47z _)) := okF_of std .nil ⟨rfl, rfl, by kernel_rfl, rfl, rfl, rfl⟩ (sm_z47z NN) (cutsL (fun _ => rfl) (.cons lf_z47z_L1 .nil) (by kernel_rfl)) Tryz.func77 (by kernel_rfl) (by kernel_rfl)
abbrev T_z41z : Type 1 := List Int → {R : Type} → (List Int → Option R) → Option R
def z41z_L1 (g : Nat) : Nat → Int → Int → List Int → {R : Type} → (List Int → Option R) → Option R
 | 0, _, _, _, _, _ => none
 | n + 1, v2, v3, v4, _, e0 => (bif (decide (v2 < v3)) then (inr v4 v3 (at_ v4 v3 fun x9 => (inr v4 v2 (at_ v4 v2 fun x10 => (inr v4 v2 (at_ v4 v2 fun x11 => (inr (set_ v4 v2 x9) v3 (at_ (set_ v4 v2 x9) v3 fun x12 => z41z_L1 g n (w64 (v2 + 1)) (w64 (v3 - 1)) (set_ (set_ v4 v2 x9) v3 x10) e0)))))))) else e0 v4)
def z41z_ (g : Nat) (a1 : List Int) {R : Type} (k0 : List Int → Option R) : Option R :=
 (z41z_L1 g g 0 (w64 ((a1.length : Int) - 1)) a1 (fun e13 => k0 e13))
noncomputable def z41z [Fuel] : T_z41z := @z41z_ NN
def SS_z41z (g : T_z41z) : Spec A := fun args => match args with | [.arr 3 a1] => fun k => g a1 (fun z0 => k (.tup []) [.arr 3 z0]) | _ => fun _ => none
def sh_z41z_L1 : SSt := mkSh 28 1 [(0, .own 3 0), (2, .int .i64), (3, .int .i64)] [(0, .row 3)]
def LP_z41z_L1 (g : Nat) (n : Nat) : LPT A := fun ps => match ps with | [.d (.int .i64 p1), .d (.int .i64 p2), .d (.sl 3 p3)] => fun K => z41z_L1 g n p1 p2 p3 (fun z0 => K (.exit 0) (mkSt 28 1 [(0, .own 3 0)] [(0, some (.row 3 z0))])) | _ => fun _ => none
noncomputable def code_78 : Code := (Tryz.f78.body).getD .skip
noncomputable def E_z41z (g : Nat) : Env A := mkE [] [] [(1, ⟨[0, 2, 3], [], [0], [], [], [], []⟩)] [(1, ⟨[0], [], [0], [], [], [], []⟩)] [(1, pieceOf sh_z41z_L1 (LP_z41z_L1 g g))] [] [] [] [] [0]
theorem ct_z41z [Fuel] : NatTab (E_z41z NN).C := ct_of (P := Tryz.prog) (T := T) .nil (by kernel_rfl)
noncomputable def cb_z41z_L1 : Code := sub [1, 0, 0] code_78
theorem s_z41z_L1 (g : Nat) (n : Nat) : StepOk (E_z41z g) g cb_z41z_L1 sh_z41z_L1 (LP_z41z_L1 g) n := by intro ps; unfold LP_z41z_L1; split; exact .inr fun R K => (by kernel_rfl); exact .inl fun R K => rfl
theorem lf_z41z_L1 [Fuel] : LoopFine (E_z41z NN) NN cb_z41z_L1 := fine_loop sh_z41z_L1 (LP_z41z_L1 NN) (by kernel_rfl) ct_z41z (cuts0 (fun _ => rfl) (by kernel_rfl)) (fun ps R K => by unfold LP_z41z_L1; split <;> (try unfold z41z_L1) <;> rfl) (s_z41z_L1 NN)
theorem sm_z41z (g : Nat) : Same (SS_z41z (@z41z_ g)) (abody (E_z41z g) Tryz.f78 code_78 1 [0] [] g) := by intro args; unfold SS_z41z; split; exact .inr fun R k => (by kernel_rfl); exact .inl fun R k => rfl
theorem ok_z41z [Fuel] : Ok 78 (SS_z41z (@z41z _)) := okF_of std .nil ⟨rfl, rfl, by kernel_rfl, rfl, rfl, rfl⟩ (sm_z41z NN) (cutsL (fun _ => rfl) (.cons lf_z41z_L1 .nil) (by kernel_rfl)) Tryz.func78 (by kernel_rfl) (by kernel_rfl)
abbrev T_band_heard : Type 1 := List G_Band → List G_Spot → Int → Int → {R : Type} → (List G_Spot → List Int → Option R) → Option R
structure C_band_heard where
 N : Nat
 log_At : T_log_At
 z77z : T_z77z
 z47z : T_z47z
 z41z : T_z41z
def band_heard_L4 (g : C_band_heard) : Nat → List G_Spot → List G_Band → Int → Int → List (G_band_onBand × Bool) → List G_Spot → List Int → {R : Type} → (List G_Band → Int → Int → List (G_band_onBand × Bool) → List G_Spot → List Int → Option R) → Option R
 | 0, y0, y1, y2, y3, y4, y5, y6, _, e0 => e0 y1 y2 y3 y4 y5 y6
 | n + 1, l12, v6, v7, v8, v9, v10, v11, _, e0 => (match l12[n]? with | none => none | some x13 => (g.log_At v6 x13.f_Hertz (fun r14 => (bif (decide (x13.f_At ≤ (w64 (v8 - v7)))) then band_heard_L4 g n l12 v6 v7 v8 v9 v10 v11 e0 else (bif (decide (x13.f_At > v8)) then band_heard_L4 g n l12 v6 v7 v8 v9 v10 v11 e0 else (bif (decide (r14 < 0)) then band_heard_L4 g n l12 v6 v7 v8 v9 v10 v11 e0 else (bif ((mget_band_onBand_bool (⟨x13.f_Call, r14⟩ : G_band_onBand) v9).getD false) then band_heard_L4 g n l12 v6 v7 v8 v9 v10 v11 e0 else (bif (decide ((v10.length + [x13].length) * 48 ≤ roomBytes')) then (bif (decide ((v11.length + [r14].length) * 8 ≤ roomBytes')) then band_heard_L4 g n l12 v6 v7 v8 (mset_band_onBand_bool (⟨x13.f_Call, r14⟩ : G_band_onBand) true v9) (v10 ++ [x13]) (v11 ++ [r14]) e0 else none) else none))))))))
noncomputable def raw_band_heard (g : C_band_heard) (a1 : List G_Band) (a2 : List G_Spot) (a3 a4 : Int) {R : Type} (k0 : List G_Spot → List Int → Option R) : Option R :=
 (g.z77z a2 (fun r5 => (bif decide (r5.length < 4611686018427387904) then (band_heard_L4 g r5.length r5 a1 a3 a4 [] [] [] (fun e15 e16 e17 e18 e19 e20 => (g.z47z e19 (fun r21 => (g.z41z e20 (fun r22 => k0 r21 r22)))))) else none)))
def dec0_band_heard (p : IV A × List (IV A)) : Option ((List G_Spot) × (List Int)) := match p with | (.tup [.arr 42 b1, .arr 3 b2], [.undef, .undef, .undef, .undef]) => some (b1, b2) | _ => none
def inj0_band_heard (q : (List G_Spot) × (List Int)) : IV A × List (IV A) := (.tup [.arr 42 q.1, .arr 3 q.2], [.undef, .undef, .undef, .undef])
theorem hi0_band_heard (p : IV A × List (IV A)) (q : (List G_Spot) × (List Int)) (h : dec0_band_heard p = some q) : p = inj0_band_heard q := by unfold dec0_band_heard at h; split at h; (cases h; rfl); cases h
noncomputable def band_heard_ (g : C_band_heard) (a1 : List G_Band) (a2 : List G_Spot) (a3 a4 : Int) {R : Type} (k0 : List G_Spot → List Int → Option R) : Option R :=
 (raw_band_heard g a1 a2 a3 a4 (fun z0 z1 => some (inj0_band_heard (z0, z1)))).bind fun p => (decK dec0_band_heard p (fun q => k0 q.1 q.2) none)
noncomputable def I_band_heard [Fuel] : C_band_heard := ⟨NN, @log_At _, @z77z _, @z47z _, @z41z _⟩
noncomputable def band_heard [Fuel] : T_band_heard := @band_heard_ I_band_heard
def SS_band_heard (g : T_band_heard) : Spec A := fun args => match args with | [.d (.sl 62 a1), .d (.sl 42 a2), .d (.int .i64 a3), .d (.int .i64 a4)] => fun k => g a1 a2 a3 a4 (fun z0 z1 => k (.tup [.arr 42 z0, .arr 3 z1]) [.undef, .undef, .undef, .undef]) | _ => fun _ => none
def sh_band_heard_L4 : SSt := mkSh 65 16 [(4, .ptr 0 0), (6, .ptr 1 0), (7, .ptr 2 0), (8, .ptr 3 0), (9, .ptr 4 0), (10, .ptr 6 0)] [(0, .box [.sl 62]), (1, .box [.int .i64]), (2, .box [.int .i64]), (3, .box [.own 42 8]), (4, .box [.own 3 9]), (5, .mp 131 4), (6, .box [.mp 5]), (8, .row 42), (9, .row 3)]
abbrev bw_band_heard_L4 : Bw := ⟨127, 28, 42, 3, 4⟩
def LP_band_heard_L4 (g : C_band_heard) (n : Nat) (l : List (A (bw_band_heard_L4).tE)) : LPT A := fun ps => match ps with | [.d (.sl 62 p1), .d (.int .i64 p2), .d (.int .i64 p3), .mp 131 4 p4, .d (.sl 42 p5), .d (.sl 3 p6)] => fun K => band_heard_L4 g n l p1 p2 p3 p4 p5 p6 (fun z0 z1 z2 z3 z4 z5 => K .normal (mkSt 65 16 [(4, .ptr 0 0), (6, .ptr 1 0), (7, .ptr 2 0), (8, .ptr 3 0), (9, .ptr 4 0), (10, .ptr 6 0)] [(0, some (.box [.d (.sl 62 z0)])), (1, some (.box [.d (.int .i64 z1)])), (2, some (.box [.d (.int .i64 z2)])), (3, some (.box [.own 42 8])), (4, some (.box [.own 3 9])), (5, some (.mp 131 4 z3)), (6, some (.box [.mp 5])), (8, some (.row 42 z4)), (9, some (.row 3 z5))])) | _ => fun _ => none
noncomputable def code_36 : Code := (Tryz.f36.body).getD .skip
noncomputable def E_band_heard (g : C_band_heard) : Env A := mkE [(43, SS_log_At g.log_At), (76, SS_z77z g.z77z), (77, SS_z47z g.z47z), (78, SS_z41z g.z41z)] [(4, [0]), (6, [1]), (7, [2]), (8, [3]), (9, [4]), (10, [6]), (12, [10]), (13, [11]), (14, [5]), (16, [7]), (52, [12]), (53, [14]), (57, [13]), (58, [15])] [(4, ⟨[4, 6, 7, 8, 9, 10], [], [0, 1, 2, 3, 4, 5, 6], [(3, 0, 42, 8), (4, 0, 3, 9)], [], [], []⟩)] [(4, ⟨[4, 6, 7, 8, 9, 10], [], [0, 1, 2, 3, 4, 5, 6], [], [], [], []⟩)] [] [] [] [] [(77, 0), (78, 0)] []
noncomputable def CB_band_heard (g : C_band_heard) : Nat → Option (Nat → PieceB A (bw_band_heard_L4).tE) := fun i => List.lookup i [(0, pieceB (bw_band_heard_L4).tE sh_band_heard_L4 (LP_band_heard_L4 g))]
def kp_band_heard : Nat → List Nat := fun i => (List.lookup i [(0, [4, 6, 7, 8, 9, 10])]).getD []
theorem ct_band_heard [Fuel] : NatTab (E_band_heard I_band_heard).C := ct_of (P := Tryz.prog) (T := T) (.cons ok_log_At (.cons ok_z77z (.cons ok_z47z (.cons ok_z41z .nil)))) (by kernel_rfl)
noncomputable def bwp_band_heard_L4 : BwP := (bwP Tryz.f127.body).get (by kernel_rfl)
theorem bwf_band_heard_L4 : BwFine Tryz.prog T bw_band_heard_L4 := ⟨bwOk_of (fn := Tryz.f127) Tryz.func127 bwp_band_heard_L4 (by kernel_rfl) (by kernel_rfl) (by kernel_rfl) (by kernel_rfl) (by kernel_rfl) (by kernel_rfl) (by kernel_rfl) (by kernel_rfl) (by kernel_rfl), enters_of (fn := Tryz.f127) Tryz.func127 (by kernel_rfl) (by kernel_rfl), by kernel_rfl, by kernel_rfl, fun x => by kernel_rfl⟩
noncomputable def rp_band_heard_L4 : RfP := (rfOf (sub [1, 1, 0] code_36)).get (by kernel_rfl)
theorem z_band_heard_L4 (g : C_band_heard) : BZeroOk (bw_band_heard_L4).tE sh_band_heard_L4 (LP_band_heard_L4 g) := by intro xs ps; unfold LP_band_heard_L4; split; exact .inr fun R K => (by kernel_rfl); exact .inl fun R K => rfl
theorem s_band_heard_L4 (g : C_band_heard) (i : Nat) : BStepOk (E_band_heard g) g.N (kp_band_heard (rp_band_heard_L4).B) rp_band_heard_L4 (bw_band_heard_L4).tE sh_band_heard_L4 (LP_band_heard_L4 g) i := by intro xs ps; unfold LP_band_heard_L4; split; exact .inr fun R K => (by kernel_rfl); exact .inl fun R K => rfl
theorem lf_band_heard_L4 [Fuel] : BOk (E_band_heard I_band_heard) bw_band_heard_L4 (CB_band_heard I_band_heard) kp_band_heard NN rp_band_heard_L4 := fine_back sh_band_heard_L4 (LP_band_heard_L4 I_band_heard) (by kernel_rfl) (cuts0 (fun _ => rfl) (by kernel_rfl)) (cuts0 (fun _ => rfl) (by kernel_rfl)) (z_band_heard_L4 I_band_heard) (s_band_heard_L4 I_band_heard)
theorem sm_band_heard (g : C_band_heard) : Same (SS_band_heard (@raw_band_heard g)) (abodyB (E_band_heard g) bw_band_heard_L4 (CB_band_heard g) kp_band_heard Tryz.f36 code_36 16 [] [.arr 42, .arr 3] g.N) := by intro args; unfold SS_band_heard; split; exact .inr fun R k => (by kernel_rfl); exact .inl fun R k => rfl
theorem wh_band_heard (g : C_band_heard) : Whole (SS_band_heard (@band_heard_ g)) (SS_band_heard (@raw_band_heard g)) := by
 intro args R k res h
 unfold SS_band_heard at h
 split at h
 ·obtain ⟨p, hp, h⟩ := Option.bind_eq_some_iff.1 h
  exact ⟨p, hp, (decK_hc (inj := inj0_band_heard) hi0_band_heard (fun h => (by cases h)) h)⟩
 ·cases h
theorem nx_band_heard (g : C_band_heard) : NatSpec (SS_band_heard (@band_heard_ g)) := by
 intro args R k
 unfold SS_band_heard
 split
 ·unfold band_heard_
  rw [Option.bind_assoc]
  exact congrArg (Option.bind _) (funext fun p => (decK_na (inj := inj0_band_heard) rfl))
 ·rfl
theorem ok_band_heard [Fuel] : Ok 36 (SS_band_heard (@band_heard _)) := okB_of std (.cons ok_log_At (.cons ok_z77z (.cons ok_z47z (.cons ok_z41z .nil)))) ⟨rfl, rfl, by kernel_rfl, rfl, rfl, rfl⟩ bwf_band_heard_L4 (sm_band_heard I_band_heard) (wh_band_heard I_band_heard) (nx_band_heard I_band_heard) (cutsB (fun _ => rfl) .nil (.cons lf_band_heard_L4 .nil) (by kernel_rfl) (by kernel_rfl)) Tryz.func36 (by kernel_rfl) (by kernel_rfl)
abbrev T_z93z : Type 1 := G_Spot → Int → {R : Type} → (Int → Option R) → Option R
def z93z_ (g : Nat) (a1 : G_Spot) (a2 : Int) {R : Type} (k0 : Int → Option R) : Option R :=
 k0 (if (w64 (a2 - a1.f_Hertz)) > (w64 (a1.f_Hertz - a2)) then (w64 (a2 - a1.f_Hertz)) else (w64 (a1.f_Hertz - a2)))
noncomputable def z93z [Fuel] : T_z93z := @z93z_ NN
def SS_z93z (g : T_z93z) : Spec A := fun args => match args with | [.agg [.d (.int .i64 a1), .d (.int .i64 a2), .d (.str a3), .d (.str a4)], .cel [.int .i64 a5] 0] => fun k => g ⟨a1, a2, a3, a4⟩ a5 (fun z0 => k (.d (.int .i64 z0)) [.undef, .undef]) | _ => fun _ => none
noncomputable def code_37 : Code := (Tryz.f37.body).getD .skip
noncomputable def E_z93z (g : Nat) : Env A := mkE [] [(2, [0])] [] [] [] [] [] [] [] []
theorem sm_z93z (g : Nat) : Same (SS_z93z (@z93z_ g)) (abody (E_z93z g) Tryz.f37 code_37 1 [] [.asis] g) := by intro args; unfold SS_z93z; split; exact .inr fun R k => (by kernel_rfl); exact .inl fun R k => rfl
theorem ok_z93z [Fuel] : Ok 37 (SS_z93z (@z93z _)) := okF_of std .nil ⟨rfl, rfl, by kernel_rfl, rfl, rfl, rfl⟩ (sm_z93z NN) (cuts0 (fun _ => rfl) (by kernel_rfl)) Tryz.func37 (by kernel_rfl) (by kernel_rfl)
abbrev T_z52z : Type 1 := G_Spot → G_Spot → Int → {R : Type} → (Int → Int → Option R) → Option R
structure C_z52z where
 N : Nat
 z93z : T_z93z
def z52z_ (g : C_z52z) (a1 a2 : G_Spot) (a3 : Int) {R : Type} (k0 : Int → Int → Option R) : Option R :=
 (g.z93z a1 a3 (fun r4 => (g.z93z a2 a3 (fun r5 => k0 (w64 (r4 - r5)) a3))))
noncomputable def I_z52z [Fuel] : C_z52z := ⟨NN, @z93z _⟩
noncomputable def z52z [Fuel] : T_z52z := @z52z_ I_z52z
def SS_z52z (g : T_z52z) : Spec A := fun args => match args with | [.agg [.d (.int .i64 a1), .d (.int .i64 a2), .d (.str a3), .d (.str a4)], .agg [.d (.int .i64 a5), .d (.int .i64 a6), .d (.str a7), .d (.str a8)], .box [.fn 37 [.cel [.int .i64 a9] 0]]] => fun k => g ⟨a1, a2, a3, a4⟩ ⟨a5, a6, a7, a8⟩ a9 (fun z0 z1 => k (.d (.int .i64 z0)) [.undef, .undef, .box [.fn 37 [.cel [.int .i64 z1] 0]]]) | _ => fun _ => none
noncomputable def code_39 : Code := (Tryz.f39.body).getD .skip
noncomputable def E_z52z (g : C_z52z) : Env A := mkE [(37, SS_z93z g.z93z)] [(3, [1]), (4, [2])] [] [] [] [] [] [] [] [2]
theorem sm_z52z (g : C_z52z) : Same (SS_z52z (@z52z_ g)) (abody (E_z52z g) Tryz.f39 code_39 3 [0] [.asis] g.N) := by intro args; unfold SS_z52z; split; exact .inr fun R k => (by kernel_rfl); exact .inl fun R k => rfl
theorem ok_z52z [Fuel] : Ok 39 (SS_z52z (@z52z _)) := okF_of std (.cons ok_z93z .nil) ⟨rfl, rfl, by kernel_rfl, rfl, rfl, rfl⟩ (sm_z52z I_z52z) (cuts0 (fun _ => rfl) (by kernel_rfl)) Tryz.func39 (by kernel_rfl) (by kernel_rfl)
abbrev T_z1z : Type 1 := List G_Spot → Int → Int → Int → {R : Type} → (List G_Spot → Int → Option R) → Option R
structure C_z1z where
 N : Nat
 z52z : T_z52z
def z1z_L4 (g : C_z1z) : Nat → Int → Int → Int → Int → List G_Spot → Int → {R : Type} → (Int → Int → Int → List G_Spot → Int → Option R) → Option R
 | 0, _, _, _, _, _, _, _, _ => none
 | n + 1, v37, v38, v39, v40, v41, v42, _, e0 => (bif (decide (v40 > v37)) then (inr v41 v40 (at_ v41 v40 fun x51 => (inr v41 (w64 (v40 - 1)) (at_ v41 (w64 (v40 - 1)) fun x52 => (g.z52z x51 x52 v42 (fun r53 r54 => (bif (decide (r53 < 0)) then (inr v41 (w64 (v40 - 1)) (at_ v41 (w64 (v40 - 1)) fun x55 => (inr v41 v40 (at_ v41 v40 fun x56 => (inr v41 v40 (at_ v41 v40 fun x57 => (inr (set_ v41 v40 x55) (w64 (v40 - 1)) (at_ (set_ v41 v40 x55) (w64 (v40 - 1)) fun x58 => z1z_L4 g n v37 v38 v39 (w64 (v40 - 1)) (set_ (set_ v41 v40 x55) (w64 (v40 - 1)) x56) r54 e0)))))))) else e0 v37 v38 v39 v41 r54))))))) else e0 v37 v38 v39 v41 v42)
def z1z_L1 (g : C_z1z) : Nat → Int → Int → Int → List G_Spot → Int → {R : Type} → (List G_Spot → Int → Option R) → Option R
 | 0, _, _, _, _, _, _, _ => none
 | n + 1, v5, v6, v7, v8, v9, _, e0 => (bif (decide (v7 < v6)) then (z1z_L4 g g.N v5 v6 v7 v7 v8 v9 (fun e59 e60 e61 e62 e63 => z1z_L1 g n e59 e60 (w64 (e61 + 1)) e62 e63 e0)) else e0 v8 v9)
def z1z_ (g : C_z1z) (a1 : List G_Spot) (a2 a3 a4 : Int) {R : Type} (k0 : List G_Spot → Int → Option R) : Option R :=
 (z1z_L1 g g.N a2 a3 (w64 (a2 + 1)) a1 a4 (fun e64 e65 => k0 e64 e65))
noncomputable def I_z1z [Fuel] : C_z1z := ⟨NN, @z52z _⟩
noncomputable def z1z [Fuel] : T_z1z := @z1z_ I_z1z
def SS_z1z (g : T_z1z) : Spec A := fun args => match args with | [.arr 42 a1, .d (.int .i64 a2), .d (.int .i64 a3), .fn 39 [.box [.fn 37 [.cel [.int .i64 a4] 0]]]] => fun k => g a1 a2 a3 a4 (fun z0 z1 => k (.tup []) [.arr 42 z0, .undef, .undef, .fn 39 [.box [.fn 37 [.cel [.int .i64 z1] 0]]]]) | _ => fun _ => none
def sh_z1z_L4 : SSt := mkSh 53 2 [(0, .own 42 0), (1, .int .i64), (2, .int .i64), (3, .fn 39 [.ptr 1 0]), (8, .int .i64), (9, .int .i64)] [(0, .row 42), (1, .box [.fn 37 [.cel [.int .i64] 0]])]
def LP_z1z_L4 (g : C_z1z) (n : Nat) : LPT A := fun ps => match ps with | [.d (.int .i64 p1), .d (.int .i64 p2), .d (.int .i64 p3), .d (.int .i64 p4), .d (.sl 42 p5), .d (.int .i64 p6)] => fun K => z1z_L4 g n p1 p2 p3 p4 p5 p6 (fun z0 z1 z2 z3 z4 => K (.exit 2) (mkSt 53 2 [(0, .own 42 0), (1, .d (.int .i64 z0)), (2, .d (.int .i64 z1)), (3, .fn 39 [.ptr 1 0]), (8, .d (.int .i64 z2))] [(0, some (.row 42 z3)), (1, some (.box [.fn 37 [.cel [.int .i64 z4] 0]]))])) | _ => fun _ => none
def sh_z1z_L1 : SSt := mkSh 53 2 [(0, .own 42 0), (1, .int .i64), (2, .int .i64), (3, .fn 39 [.ptr 1 0]), (8, .int .i64)] [(0, .row 42), (1, .box [.fn 37 [.cel [.int .i64] 0]])]
def LP_z1z_L1 (g : C_z1z) (n : Nat) : LPT A := fun ps => match ps with | [.d (.int .i64 p1), .d (.int .i64 p2), .d (.int .i64 p3), .d (.sl 42 p4), .d (.int .i64 p5)] => fun K => z1z_L1 g n p1 p2 p3 p4 p5 (fun z0 z1 => K (.exit 0) (mkSt 53 2 [(0, .own 42 0), (3, .fn 39 [.ptr 1 0])] [(0, some (.row 42 z0)), (1, some (.box [.fn 37 [.cel [.int .i64 z1] 0]]))])) | _ => fun _ => none
noncomputable def E_z1z (g : C_z1z) : Env A := mkE [(39, SS_z52z g.z52z)] [] [(4, ⟨[0, 1, 2, 3, 8, 9], [], [0, 1], [], [], [], []⟩), (1, ⟨[0, 1, 2, 3, 8], [], [0, 1], [], [], [], []⟩)] [(4, ⟨[0, 1, 2, 3, 8], [], [0, 1], [], [], [], []⟩), (1, ⟨[0, 3], [], [0, 1], [], [], [], []⟩)] [(4, pieceOf sh_z1z_L4 (LP_z1z_L4 g g.N)), (1, pieceOf sh_z1z_L1 (LP_z1z_L1 g g.N))] [] [] [] [] [0, 3]
theorem ct_z1z [Fuel] : NatTab (E_z1z I_z1z).C := ct_of (P := Tryz.prog) (T := T) (.cons ok_z52z .nil) (by kernel_rfl)
noncomputable def cb_z1z_L4 : Code := sub [1, 0, 0, 1, 0, 0, 1, 0, 0] code_128
theorem s_z1z_L4 (g : C_z1z) (n : Nat) : StepOk (E_z1z g) g.N cb_z1z_L4 sh_z1z_L4 (LP_z1z_L4 g) n := by intro ps; unfold LP_z1z_L4; split; exact .inr fun R K => (by kernel_rfl); exact .inl fun R K => rfl
theorem lf_z1z_L4 [Fuel] : LoopFine (E_z1z I_z1z) NN cb_z1z_L4 := fine_loop sh_z1z_L4 (LP_z1z_L4 I_z1z) (by kernel_rfl) ct_z1z (cuts0 (fun _ => rfl) (by kernel_rfl)) (fun ps R K => by unfold LP_z1z_L4; split <;> (try unfold z1z_L4) <;> rfl) (s_z1z_L4 I_z1z)
noncomputable def cb_z1z_L1 : Code := sub [1, 0, 0] code_128
theorem s_z1z_L1 (g : C_z1z) (n : Nat) : StepOk (E_z1z g) g.N cb_z1z_L1 sh_z1z_L1 (LP_z1z_L1 g) n := by intro ps; unfold LP_z1z_L1; split; exact .inr fun R K => (by kernel_rfl); exact .inl fun R K => rfl
theorem lf_z1z_L1 [Fuel] : LoopFine (E_z1z I_z1z) NN cb_z1z_L1 := fine_loop sh_z1z_L1 (LP_z1z_L1 I_z1z) (by kernel_rfl) ct_z1z (cutsL (fun _ => rfl) (.cons lf_z1z_L4 .nil) (by kernel_rfl)) (fun ps R K => by unfold LP_z1z_L1; split <;> (try unfold z1z_L1) <;> rfl) (s_z1z_L1 I_z1z)
theorem sm_z1z (g : C_z1z) : Same (SS_z1z (@z1z_ g)) (abody (E_z1z g) Tryz.f128 code_128 2 [0, 1] [] g.N) := by intro args; unfold SS_z1z; split; exact .inr fun R k => (by kernel_rfl); exact .inl fun R k => rfl
theorem ok_z1z [Fuel] : Ok 128 (SS_z1z (@z1z _)) := okF_of std (.cons ok_z52z .nil) ⟨rfl, rfl, by kernel_rfl, rfl, rfl, rfl⟩ (sm_z1z I_z1z) (cutsL (fun _ => rfl) (.cons lf_z1z_L4 (.cons lf_z1z_L1 .nil)) (by kernel_rfl)) Tryz.func128 (by kernel_rfl) (by kernel_rfl)
end Go.Am
