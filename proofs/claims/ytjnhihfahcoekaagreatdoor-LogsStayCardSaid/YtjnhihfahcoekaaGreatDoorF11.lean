/- The functions of the program as Lean functions, each shown to be what the code computes, part 11. No condition: lemmas for the claim. -/
import Derived.Test.YtjnhihfahcoekaaGreatDoorF0
import Derived.Test.YtjnhihfahcoekaaGreatDoorFSh
import Derived.Test.YtjnhihfahcoekaaGreatDoorF3
import Derived.Test.YtjnhihfahcoekaaGreatDoorF4
import Derived.Test.YtjnhihfahcoekaaGreatDoorF6
import Derived.Test.YtjnhihfahcoekaaGreatDoorF7
import Derived.Test.YtjnhihfahcoekaaGreatDoorF8
import Derived.Test.YtjnhihfahcoekaaGreatDoorF9
import Derived.Test.YtjnhihfahcoekaaGreatDoorF10
set_option linter.unusedVariables false
set_option maxRecDepth 100000
namespace Go.Am
open Go Go.Proofs
abbrev T_z39z : Type 1 := List G_Deed → List G_Contact → List (List UInt8) → List Int → List (G_net_own × Bool) → {R : Type} → (List (Int × Int) → List G_Deed → List G_Contact → List (List UInt8) → List Int → List (G_net_own × Bool) → Option R) → Option R
def z39z_L3 (g : Nat) : Nat → Int → Int → List (G_net_own × Bool) → List (Int × Int) → List G_Deed → List G_Contact → List (List UInt8) → List Int → {R : Type} → (List (G_net_own × Bool) → List (Int × Int) → List G_Deed → List G_Contact → List (List UInt8) → List Int → Option R) → Option R
 | 0, _, _, _, _, _, _, _, _, _, _ => none
 | n + 1, v6, v7, v8, v9, v10, v11, v12, v13, _, e0 => (bif (decide (v7 < v6)) then (inr v11 v7 (at_ v11 v7 fun x15 => (bif (decide (x15.f_Sent > 0)) then z39z_L3 g n v6 (w64 (v7 + 1)) v8 (mset_int_int x15.f_Sent (w64 (((mget_int_int x15.f_Sent v9).getD 0) + 1)) v9) v10 v11 v12 v13 e0 else z39z_L3 g n v6 (w64 (v7 + 1)) v8 v9 v10 v11 v12 v13 e0))) else e0 v8 v9 v10 v11 v12 v13)
def z39z_ (g : Nat) (a1 : List G_Deed) (a2 : List G_Contact) (a3 : List (List UInt8)) (a4 : List Int) (a5 : List (G_net_own × Bool)) {R : Type} (k0 : List (Int × Int) → List G_Deed → List G_Contact → List (List UInt8) → List Int → List (G_net_own × Bool) → Option R) : Option R :=
 (z39z_L3 g g (a2.length : Int) 0 a5 [] a1 a2 a3 a4 (fun e16 e17 e18 e19 e20 e21 => k0 e17 e18 e19 e20 e21 e16))
noncomputable def z39z [Fuel] : T_z39z := @z39z_ NN
def SS_z39z (g : T_z39z) : Spec A := fun args => match args with | [.box [.arr 80 a1, .arr 35 a2, .arr 9 a3, .arr 3 a4, .mp 176 4 a5]] => fun k => g a1 a2 a3 a4 a5 (fun z0 z1 z2 z3 z4 z5 => k (.mp 3 3 z0) [.box [.arr 80 z1, .arr 35 z2, .arr 9 z3, .arr 3 z4, .mp 176 4 z5]]) | _ => fun _ => none
def sh_z39z_L3 : SSt := mkSh 26 12 [(0, .ptr 0 0), (3, .mp 6), (10, .own 35 8), (11, .int .i64), (12, .int .i64)] [(0, .box [.own 80 7, .own 35 8, .own 9 9, .own 3 10, .mp 5]), (5, .mp 176 4), (6, .mp 3 3), (7, .row 80), (8, .row 35), (9, .row 9), (10, .row 3)]
def LP_z39z_L3 (g : Nat) (n : Nat) : LPT A := fun ps => match ps with | [.d (.int .i64 p1), .d (.int .i64 p2), .mp 176 4 p3, .mp 3 3 p4, .d (.sl 80 p5), .d (.sl 35 p6), .d (.sl 9 p7), .d (.sl 3 p8)] => fun K => z39z_L3 g n p1 p2 p3 p4 p5 p6 p7 p8 (fun z0 z1 z2 z3 z4 z5 => K (.exit 0) (mkSt 26 12 [(0, .ptr 0 0), (3, .mp 6)] [(0, some (.box [.own 80 7, .own 35 8, .own 9 9, .own 3 10, .mp 5])), (5, some (.mp 176 4 z0)), (6, some (.mp 3 3 z1)), (7, some (.row 80 z2)), (8, some (.row 35 z3)), (9, some (.row 9 z4)), (10, some (.row 3 z5))])) | _ => fun _ => none
noncomputable def E_z39z (g : Nat) : Env A := mkE [] [(5, [11]), (6, [6])] [(3, ⟨[0, 3, 10, 11, 12], [], [0, 5, 6], [(0, 0, 80, 7), (0, 1, 35, 8), (0, 2, 9, 9), (0, 3, 3, 10)], [], []⟩)] [(3, ⟨[0, 3], [], [0, 5, 6, 7, 8, 9, 10], [], [], []⟩)] [(3, pieceOf sh_z39z_L3 (LP_z39z_L3 g g))] [] [] [] [] [0]
theorem ct_z39z [Fuel] : NatTab (E_z39z NN).C := ct_of (P := Tryz.prog) (T := T) .nil (by kernel_rfl)
noncomputable def cb_z39z_L3 : Code := sub [1, 1, 0, 1, 0, 0] code_104
theorem s_z39z_L3 (g : Nat) (n : Nat) : StepOk (E_z39z g) g cb_z39z_L3 sh_z39z_L3 (LP_z39z_L3 g) n := by intro ps; unfold LP_z39z_L3; split; exact .inr fun R K => (by kernel_rfl); exact .inl fun R K => rfl
theorem lf_z39z_L3 [Fuel] : LoopFine (E_z39z NN) NN cb_z39z_L3 := fine_loop sh_z39z_L3 (LP_z39z_L3 NN) (by kernel_rfl) ct_z39z (cuts0 (fun _ => rfl) (by kernel_rfl)) (fun ps R K => by unfold LP_z39z_L3; split <;> (try unfold z39z_L3) <;> rfl) (s_z39z_L3 NN)
theorem sm_z39z (g : Nat) : Same (SS_z39z (@z39z_ g)) (abody (E_z39z g) Tryz.f104 code_104 12 [0, 1, 2, 3, 4, 5] [.asis] g) := by intro args; unfold SS_z39z; split; exact .inr fun R k => (by kernel_rfl); exact .inl fun R k => rfl
theorem ok_z39z [Fuel] : Ok 104 (SS_z39z (@z39z _)) := okF_of std .nil ⟨rfl, rfl, by kernel_rfl, rfl, rfl, rfl⟩ (sm_z39z NN) (cutsL (fun _ => rfl) (.cons lf_z39z_L3 .nil) (by kernel_rfl)) Tryz.func104 (by kernel_rfl) (by kernel_rfl)
abbrev T_z14z : Type 1 := List G_Deed → List G_Contact → List (List UInt8) → List Int → List (G_net_own × Bool) → {R : Type} → (List (Int × Int) → List G_Deed → List G_Contact → List (List UInt8) → List Int → List (G_net_own × Bool) → Option R) → Option R
noncomputable def z14z_L3 (g : Nat) : Nat → List (G_net_own × Bool) → List (G_net_own × Bool) → List (Int × Int) → List G_Deed → List G_Contact → List (List UInt8) → List Int → {R : Type} → (List (G_net_own × Bool) → List (Int × Int) → List G_Deed → List G_Contact → List (List UInt8) → List Int → Option R) → Option R
 | 0, _, _, _, _, _, _, _, _, _ => none
 | n + 1, m11, l12, v6, v7, v8, v9, v10, _, e0 => (pickAll l12 (e0 m11 v6 v7 v8 v9 v10) fun x15 l16 => z14z_L3 g n m11 l16 (mset_int_int x15.1.f_no (w64 (((mget_int_int x15.1.f_no v6).getD 0) + 1)) v6) v7 v8 v9 v10 e0)
noncomputable def raw_z14z (g : Nat) (a1 : List G_Deed) (a2 : List G_Contact) (a3 : List (List UInt8)) (a4 : List Int) (a5 : List (G_net_own × Bool)) {R : Type} (k0 : List (Int × Int) → List G_Deed → List G_Contact → List (List UInt8) → List Int → List (G_net_own × Bool) → Option R) : Option R :=
 (z14z_L3 g g a5 a5 [] a1 a2 a3 a4 (fun e17 e18 e19 e20 e21 e22 => k0 e18 e19 e20 e21 e22 e17))
def dec0_z14z (p : IV A × List (IV A)) : Option ((List (Int × Int)) × (List G_Deed) × (List G_Contact) × (List (List UInt8)) × (List Int) × (List (G_net_own × Bool))) := match p with | (.mp 3 3 b1, [.box [.arr 80 b2, .arr 35 b3, .arr 9 b4, .arr 3 b5, .mp 176 4 b6]]) => some (b1, b2, b3, b4, b5, b6) | _ => none
def inj0_z14z (q : (List (Int × Int)) × (List G_Deed) × (List G_Contact) × (List (List UInt8)) × (List Int) × (List (G_net_own × Bool))) : IV A × List (IV A) := (.mp 3 3 q.1, [.box [.arr 80 q.2.1, .arr 35 q.2.2.1, .arr 9 q.2.2.2.1, .arr 3 q.2.2.2.2.1, .mp 176 4 q.2.2.2.2.2]])
theorem hi0_z14z (p : IV A × List (IV A)) (q : (List (Int × Int)) × (List G_Deed) × (List G_Contact) × (List (List UInt8)) × (List Int) × (List (G_net_own × Bool))) (h : dec0_z14z p = some q) : p = inj0_z14z q := by unfold dec0_z14z at h; split at h; (cases h; rfl); cases h
noncomputable def z14z_ (g : Nat) (a1 : List G_Deed) (a2 : List G_Contact) (a3 : List (List UInt8)) (a4 : List Int) (a5 : List (G_net_own × Bool)) {R : Type} (k0 : List (Int × Int) → List G_Deed → List G_Contact → List (List UInt8) → List Int → List (G_net_own × Bool) → Option R) : Option R :=
 (raw_z14z g a1 a2 a3 a4 a5 (fun z0 z1 z2 z3 z4 z5 => some (inj0_z14z (z0, z1, z2, z3, z4, z5)))).bind fun p => (decK dec0_z14z p (fun q => k0 q.1 q.2.1 q.2.2.1 q.2.2.2.1 q.2.2.2.2.1 q.2.2.2.2.2) none)
noncomputable def z14z [Fuel] : T_z14z := @z14z_ NN
def SS_z14z (g : T_z14z) : Spec A := fun args => match args with | [.box [.arr 80 a1, .arr 35 a2, .arr 9 a3, .arr 3 a4, .mp 176 4 a5]] => fun k => g a1 a2 a3 a4 a5 (fun z0 z1 z2 z3 z4 z5 => k (.mp 3 3 z0) [.box [.arr 80 z1, .arr 35 z2, .arr 9 z3, .arr 3 z4, .mp 176 4 z5]]) | _ => fun _ => none
def sh_z14z_L3 : SSt := mkSh 21 12 [(0, .ptr 0 0), (3, .mp 6), (9, .mp 5)] [(0, .box [.own 80 7, .own 35 8, .own 9 9, .own 3 10, .mp 5]), (5, .gone (2, 0)), (6, .mp 3 3), (7, .row 80), (8, .row 35), (9, .row 9), (10, .row 3)]
noncomputable def LP_z14z_L3 (g : Nat) (n : Nat) (m l : List (A 176 × A 4)) : LPT A := fun ps => match ps with | [.mp 3 3 p1, .d (.sl 80 p2), .d (.sl 35 p3), .d (.sl 9 p4), .d (.sl 3 p5)] => fun K => z14z_L3 g n m l p1 p2 p3 p4 p5 (fun z0 z1 z2 z3 z4 z5 => K .normal (mkSt 21 12 [(0, .ptr 0 0), (3, .mp 6)] [(0, some (.box [.own 80 7, .own 35 8, .own 9 9, .own 3 10, .mp 5])), (5, some (.mp 176 4 z0)), (6, some (.mp 3 3 z1)), (7, some (.row 80 z2)), (8, some (.row 35 z3)), (9, some (.row 9 z4)), (10, some (.row 3 z5))])) | _ => fun _ => none
noncomputable def code_105 : Code := (Tryz.f105.body).getD .skip
noncomputable def E_z14z (g : Nat) : Env A := mkE [] [(4, [11]), (5, [6])] [(3, ⟨[0, 3, 9], [], [0, 5, 6], [(0, 0, 80, 7), (0, 1, 35, 8), (0, 2, 9, 9), (0, 3, 3, 10)], [], []⟩)] [(3, ⟨[0, 3], [], [0, 5, 6, 7, 8, 9, 10], [], [], []⟩)] [] [] [] [] [] [0]
noncomputable def CR_z14z (g : Nat) : Nat → Option (PieceR A) := fun i => List.lookup i [(3, pieceR 5 176 4 sh_z14z_L3 (LP_z14z_L3 g g))]
theorem ct_z14z [Fuel] : NatTab (E_z14z NN).C := ct_of (P := Tryz.prog) (T := T) .nil (by kernel_rfl)
noncomputable def rp_z14z_L3 : RangeP := (rangeOf (sub [1, 1, 0, 0] code_105) (sub [1, 1, 0, 1] code_105)).get (by kernel_rfl)
theorem s_z14z_L3 (g : Nat) (n : Nat) : RStepOk (E_z14z g) g rp_z14z_L3 5 176 4 sh_z14z_L3 (LP_z14z_L3 g) n := by intro m l ps; unfold LP_z14z_L3; split; exact .inr fun R K => (by kernel_rfl); exact .inl fun R K => rfl
theorem lf_z14z_L3 [Fuel] : ROk (E_z14z NN) (CR_z14z NN) NN rp_z14z_L3 := fine_range sh_z14z_L3 (LP_z14z_L3 NN) (by kernel_rfl) (cuts0 (fun _ => rfl) (by kernel_rfl)) (fun m l ps R K => by unfold LP_z14z_L3; split <;> (try unfold z14z_L3) <;> rfl) (s_z14z_L3 NN)
theorem sm_z14z (g : Nat) : Same (SS_z14z (@raw_z14z g)) (abodyR (E_z14z g) (CR_z14z g) Tryz.f105 code_105 12 [0, 1, 2, 3, 4, 5] [.asis] g) := by intro args; unfold SS_z14z; split; exact .inr fun R k => (by kernel_rfl); exact .inl fun R k => rfl
theorem wh_z14z (g : Nat) : Whole (SS_z14z (@z14z_ g)) (SS_z14z (@raw_z14z g)) := by
 intro args R k res h
 unfold SS_z14z at h
 split at h
 ·obtain ⟨p, hp, h⟩ := Option.bind_eq_some_iff.1 h
  exact ⟨p, hp, (decK_hc (inj := inj0_z14z) hi0_z14z (fun h => (by cases h)) h)⟩
 ·cases h
theorem nx_z14z (g : Nat) : NatSpec (SS_z14z (@z14z_ g)) := by
 intro args R k
 unfold SS_z14z
 split
 ·unfold z14z_
  rw [Option.bind_assoc]
  exact congrArg (Option.bind _) (funext fun p => (decK_na (inj := inj0_z14z) rfl))
 ·rfl
theorem ok_z14z [Fuel] : Ok 105 (SS_z14z (@z14z _)) := okR_of std .nil ⟨rfl, rfl, by kernel_rfl, rfl, rfl, rfl⟩ (sm_z14z NN) (wh_z14z NN) (nx_z14z NN) (cutsR (fun _ => rfl) .nil (.cons lf_z14z_L3 .nil) (by kernel_rfl) (by kernel_rfl)) Tryz.func105 (by kernel_rfl) (by kernel_rfl)
abbrev T_z19z : Type 1 := List G_Deed → List G_Contact → List (List UInt8) → List Int → List (G_net_own × Bool) → {R : Type} → (Int → Int → List G_Deed → List G_Contact → List (List UInt8) → List Int → List (G_net_own × Bool) → Option R) → Option R
structure C_z19z where
 N : Nat
 z39z : T_z39z
 z14z : T_z14z
def z19z_L3 (g : C_z19z) : Nat → Int → List (Int × Int) → List (G_net_own × Bool) → List (Int × Int) → List G_Deed → List G_Contact → List (List UInt8) → List Int → {R : Type} → (Int → Int → List (G_net_own × Bool) → List G_Deed → List G_Contact → List (List UInt8) → List Int → Option R) → (List (G_net_own × Bool) → List G_Deed → List G_Contact → List (List UInt8) → List Int → Option R) → Option R
 | 0, _, _, _, _, _, _, _, _, _, _, _ => none
 | n + 1, v18, v19, v20, v21, v22, v23, v24, v25, _, e0, e1 => (bif (decide (v18 ≤ 99999)) then (bif (((mget_int_int v18 v19).getD 0) == 0) then (bif (((mget_int_int v18 v21).getD 0) == 0) then e0 v18 0 v20 v22 v23 v24 v25 else z19z_L3 g n (w64 (v18 + 1)) v19 v20 v21 v22 v23 v24 v25 e0 e1) else z19z_L3 g n (w64 (v18 + 1)) v19 v20 v21 v22 v23 v24 v25 e0 e1) else e1 v20 v22 v23 v24 v25)
def z19z_ (g : C_z19z) (a1 : List G_Deed) (a2 : List G_Contact) (a3 : List (List UInt8)) (a4 : List Int) (a5 : List (G_net_own × Bool)) {R : Type} (k0 : Int → Int → List G_Deed → List G_Contact → List (List UInt8) → List Int → List (G_net_own × Bool) → Option R) : Option R :=
 (g.z39z a1 a2 a3 a4 a5 (fun r6 r7 r8 r9 r10 r11 => (g.z14z r7 r8 r9 r10 r11 (fun r12 r13 r14 r15 r16 r17 => (z19z_L3 g g.N 1 r6 r17 r12 r13 r14 r15 r16 (fun e26 e27 e28 e29 e30 e31 e32 => k0 e26 e27 e29 e30 e31 e32 e28) (fun e33 e34 e35 e36 e37 => k0 0 12 e34 e35 e36 e37 e33))))))
noncomputable def I_z19z [Fuel] : C_z19z := ⟨NN, @z39z _, @z14z _⟩
noncomputable def z19z [Fuel] : T_z19z := @z19z_ I_z19z
def p_z19z (args : List (IV A)) : Bool := match args with | [.box [.arr 80 _, .arr 35 _, .arr 9 _, .arr 3 _, .mp 176 4 _]] => true | _ => false
def SS_z19z (g : T_z19z) : Spec A := fun args => match args with | [.box [.arr 80 a1, .arr 35 a2, .arr 9 a3, .arr 3 a4, .mp 176 4 a5]] => fun k => g a1 a2 a3 a4 a5 (fun z0 z1 z2 z3 z4 z5 z6 => k (.tup [.d (.int .i64 z0), .d (.int .i64 z1)]) [.box [.arr 80 z2, .arr 35 z3, .arr 9 z4, .arr 3 z5, .mp 176 4 z6]]) | _ => fun _ => none
def sh_z19z_L3 : SSt := mkSh 26 22 [(0, .ptr 0 0), (4, .mp 11), (5, .mp 17), (6, .int .i64)] [(0, .box [.own 80 18, .own 35 19, .own 9 20, .own 3 21, .mp 16]), (11, .mp 3 3), (16, .mp 176 4), (17, .mp 3 3), (18, .row 80), (19, .row 35), (20, .row 9), (21, .row 3)]
def LP_z19z_L3 (g : C_z19z) (n : Nat) : LPT A := fun ps => match ps with | [.d (.int .i64 p1), .mp 3 3 p2, .mp 176 4 p3, .mp 3 3 p4, .d (.sl 80 p5), .d (.sl 35 p6), .d (.sl 9 p7), .d (.sl 3 p8)] => fun K => z19z_L3 g n p1 p2 p3 p4 p5 p6 p7 p8 (fun z0 z1 z2 z3 z4 z5 z6 => K .ret (mkSt 26 22 [(0, .ptr 0 0), (2, .d (.int .i64 z0)), (3, .d (.int .i64 z1))] [(0, some (.box [.own 80 18, .own 35 19, .own 9 20, .own 3 21, .mp 16])), (16, some (.mp 176 4 z2)), (18, some (.row 80 z3)), (19, some (.row 35 z4)), (20, some (.row 9 z5)), (21, some (.row 3 z6))])) (fun z0 z1 z2 z3 z4 => K (.exit 0) (mkSt 26 22 [(0, .ptr 0 0)] [(0, some (.box [.own 80 18, .own 35 19, .own 9 20, .own 3 21, .mp 16])), (16, some (.mp 176 4 z0)), (18, some (.row 80 z1)), (19, some (.row 35 z2)), (20, some (.row 9 z3)), (21, some (.row 3 z4))])) | _ => fun _ => none
noncomputable def E_z19z (g : C_z19z) : Env A := mkE [(104, SS_z39z g.z39z), (105, SS_z14z g.z14z)] [(8, [6, 7, 8, 9, 10, 11]), (10, [12, 13, 14, 15, 16, 17])] [(3, ⟨[0, 4, 5, 6], [], [0, 11, 16, 17], [(0, 0, 80, 18), (0, 1, 35, 19), (0, 2, 9, 20), (0, 3, 3, 21)], [], []⟩)] [(3, ⟨[0, 2, 3], [], [0, 16, 18, 19, 20, 21], [], [], []⟩)] [(3, pieceOf sh_z19z_L3 (LP_z19z_L3 g g.N))] [] [] [] [] [0]
theorem ct_z19z [Fuel] : NatTab (E_z19z I_z19z).C := ct_of (P := Tryz.prog) (T := T) (.cons ok_z39z (.cons ok_z14z .nil)) (by kernel_rfl)
noncomputable def cb_z19z_L3 : Code := sub [1, 1, 0, 1, 0, 0] code_68
theorem s_z19z_L3 (g : C_z19z) (n : Nat) : StepOk (E_z19z g) g.N cb_z19z_L3 sh_z19z_L3 (LP_z19z_L3 g) n := by intro ps; unfold LP_z19z_L3; split; exact .inr fun R K => (by kernel_rfl); exact .inl fun R K => rfl
theorem lf_z19z_L3 [Fuel] : LoopFine (E_z19z I_z19z) NN cb_z19z_L3 := fine_loop sh_z19z_L3 (LP_z19z_L3 I_z19z) (by kernel_rfl) ct_z19z (cuts0 (fun _ => rfl) (by kernel_rfl)) (fun ps R K => by unfold LP_z19z_L3; split <;> (try unfold z19z_L3) <;> rfl) (s_z19z_L3 I_z19z)
theorem sm_z19z (g : C_z19z) : Same (SS_z19z (@z19z_ g)) (abody (E_z19z g) Tryz.f68 code_68 22 [0, 1, 2, 3, 4, 5] [.asis, .asis] g.N) := by intro args; unfold SS_z19z; split; exact .inr fun R k => (by kernel_rfl); exact .inl fun R k => rfl
theorem ok_z19z [Fuel] : Ok 68 (SS_z19z (@z19z _)) := okF_of std (.cons ok_z39z (.cons ok_z14z .nil)) ⟨rfl, rfl, by kernel_rfl, rfl, rfl, rfl⟩ (sm_z19z I_z19z) (cutsL (fun _ => rfl) (.cons lf_z19z_L3 .nil) (by kernel_rfl)) Tryz.func68 (by kernel_rfl) (by kernel_rfl)
abbrev T_net_Next : Type 1 := List G_Deed → Int → {R : Type} → (Int → Int → Option R) → Option R
structure C_net_Next where
 N : Nat
 z77z : T_z77z
 z19z : T_z19z
 z66z : T_z66z
def net_Next_ (g : C_net_Next) (a1 : List G_Deed) (a2 : Int) {R : Type} (k0 : Int → Int → Option R) : Option R :=
 (g.z77z a1 a2 (fun r3 => (bif (r3 != 0) then k0 0 r3 else (g.z66z))) (fun r4 r5 r6 r7 r8 r9 => (bif (r9 != 0) then k0 0 r9 else (g.z19z r4 r5 r6 r7 r8 (fun r10 r11 r12 r13 r14 r15 r16 => k0 r10 r11)))))
noncomputable def I_net_Next [Fuel] : C_net_Next := ⟨NN, @z77z _, @z19z _, @z66z _⟩
noncomputable def net_Next [Fuel] : T_net_Next := @net_Next_ I_net_Next
def SS_net_Next (g : T_net_Next) : Spec A := fun args => match args with | [.d (.sl 80 a1), .d (.int .i64 a2)] => fun k => g a1 a2 (fun z0 z1 => k (.tup [.d (.int .i64 z0), .d (.int .i64 z1)]) [.undef, .undef]) | _ => fun _ => none
noncomputable def code_38 : Code := (Tryz.f38.body).getD .skip
noncomputable def E_net_Next (g : C_net_Next) : Env A := mkE [(67, SS_z77z g.z77z), (68, orS p_z19z (SS_z19z g.z19z) (SS_z66z g.z66z))] [(11, [0, 1, 2, 3, 4, 5]), (18, [6, 7, 8, 9, 10])] [] [] [] [] [] [] [] []
theorem sm_net_Next (g : C_net_Next) : Same (SS_net_Next (@net_Next_ g)) (abody (E_net_Next g) Tryz.f38 code_38 11 [] [.asis, .asis] g.N) := by intro args; unfold SS_net_Next; split; exact .inr fun R k => (by kernel_rfl); exact .inl fun R k => rfl
theorem ok_net_Next [Fuel] : Ok 38 (SS_net_Next (@net_Next _)) := okF_of std (.cons ok_z77z (.cons (ok_or p_z19z ok_z19z ok_z66z) .nil)) ⟨rfl, rfl, by kernel_rfl, rfl, rfl, rfl⟩ (sm_net_Next I_net_Next) (cuts0 (fun _ => rfl) (by kernel_rfl)) Tryz.func38 (by kernel_rfl) (by kernel_rfl)
abbrev T_keep_errs : Type 1 := List Int → {R : Type} → (Int → Option R) → Option R
def keep_errs_L2 (g : Nat) : Nat → List Int → Int → Int → {R : Type} → (Int → Option R) → Option R → Option R
 | 0, _, _, _, _, _, _ => none
 | n + 1, v2, v3, v4, _, e0, e1 => (bif (decide (v4 < v3)) then (get_ v2 v4 fun x6 => (bif (x6 != 0) then e0 x6 else keep_errs_L2 g n v2 v3 (w64 (v4 + 1)) e0 e1)) else e1)
def keep_errs_ (g : Nat) (a1 : List Int) {R : Type} (k0 : Int → Option R) : Option R :=
 (keep_errs_L2 g g a1 (a1.length : Int) 0 (fun e7 => k0 e7) (k0 0))
noncomputable def keep_errs [Fuel] : T_keep_errs := @keep_errs_ NN
def SS_keep_errs (g : T_keep_errs) : Spec A := fun args => match args with | [.d (.sl 30 a1)] => fun k => g a1 (fun z0 => k (.d (.int .i64 z0)) [.undef]) | _ => fun _ => none
def sh_keep_errs_L2 : SSt := mkSh 15 0 [(5, .sl 30), (6, .int .i64), (7, .int .i64)] []
def LP_keep_errs_L2 (g : Nat) (n : Nat) : LPT A := fun ps => match ps with | [.d (.sl 30 p1), .d (.int .i64 p2), .d (.int .i64 p3)] => fun K => keep_errs_L2 g n p1 p2 p3 (fun z0 => K .ret (mkSt 15 0 [(2, .d (.int .i64 z0))] [])) (K (.exit 0) (mkSt 15 0 [] [])) | _ => fun _ => none
noncomputable def code_39 : Code := (Tryz.f39.body).getD .skip
noncomputable def E_keep_errs (g : Nat) : Env A := mkE [] [] [(2, ⟨[5, 6, 7], [], [], [], [], []⟩)] [(2, ⟨[2], [], [], [], [], []⟩)] [(2, pieceOf sh_keep_errs_L2 (LP_keep_errs_L2 g g))] [] [] [] [] []
theorem ct_keep_errs [Fuel] : NatTab (E_keep_errs NN).C := ct_of (P := Tryz.prog) (T := T) .nil (by kernel_rfl)
noncomputable def cb_keep_errs_L2 : Code := sub [1, 0, 1, 0, 0] code_39
theorem s_keep_errs_L2 (g : Nat) (n : Nat) : StepOk (E_keep_errs g) g cb_keep_errs_L2 sh_keep_errs_L2 (LP_keep_errs_L2 g) n := by intro ps; unfold LP_keep_errs_L2; split; exact .inr fun R K => (by kernel_rfl); exact .inl fun R K => rfl
theorem lf_keep_errs_L2 [Fuel] : LoopFine (E_keep_errs NN) NN cb_keep_errs_L2 := fine_loop sh_keep_errs_L2 (LP_keep_errs_L2 NN) (by kernel_rfl) ct_keep_errs (cuts0 (fun _ => rfl) (by kernel_rfl)) (fun ps R K => by unfold LP_keep_errs_L2; split <;> (try unfold keep_errs_L2) <;> rfl) (s_keep_errs_L2 NN)
theorem sm_keep_errs (g : Nat) : Same (SS_keep_errs (@keep_errs_ g)) (abody (E_keep_errs g) Tryz.f39 code_39 0 [] [.asis] g) := by intro args; unfold SS_keep_errs; split; exact .inr fun R k => (by kernel_rfl); exact .inl fun R k => rfl
theorem ok_keep_errs [Fuel] : Ok 39 (SS_keep_errs (@keep_errs _)) := okF_of std .nil ⟨rfl, rfl, by kernel_rfl, rfl, rfl, rfl⟩ (sm_keep_errs NN) (cutsL (fun _ => rfl) (.cons lf_keep_errs_L2 .nil) (by kernel_rfl)) Tryz.func39 (by kernel_rfl) (by kernel_rfl)
abbrev T_keep_ready : Type 1 := {R : Type} → (Bool → Option R) → Option R
structure C_keep_ready where
 N : Nat
 log_Dupes : T_log_Dupes
 band_May : T_band_May
 club_Table : T_club_Table
 net_Next : T_net_Next
 keep_errs : T_keep_errs
def keep_ready_ (g : C_keep_ready)  {R : Type} (k0 : Bool → Option R) : Option R :=
 (g.log_Dupes [(⟨0, 1, [98], [107, 49, 97, 98], 0, 0, [], []⟩ : G_Contact), (⟨5, 1, [98], [107, 49, 97, 98], 0, 0, [], []⟩ : G_Contact)] (fun r1 r2 => (g.band_May [(⟨[99], 5, 8, [1], (⟨0, 9⟩ : G_Window)⟩ : G_Segment)] [99] 6 3 1 0 (fun r3 r4 => (g.club_Table [(⟨[107, 49, 97, 98], [99], 5, []⟩ : G_Entrant)] [99] (fun r5 r6 => (g.net_Next [(⟨[97], 1, 0, 3, (⟨0, 0, [], [], 1, 0, [], []⟩ : G_Contact), [], [], 0⟩ : G_Deed)] 0 (fun r7 r8 => (g.keep_errs [r2, r4, r6, r8] (fun r9 => (bif (r9 == 0) then (bif ((r1.length : Int) == 1) then (bif r3 then (bif ((r5.length : Int) == 1) then k0 (r7 == 2) else k0 false) else k0 false) else k0 false) else k0 false)))))))))))
noncomputable def I_keep_ready [Fuel] : C_keep_ready := ⟨NN, @log_Dupes _, @band_May _, @club_Table _, @net_Next _, @keep_errs _⟩
noncomputable def keep_ready [Fuel] : T_keep_ready := @keep_ready_ I_keep_ready
def SS_keep_ready (g : T_keep_ready) : Spec A := fun args => match args with | [] => fun k => g (fun z0 => k (.d (.bool z0)) []) | _ => fun _ => none
noncomputable def code_13 : Code := (Tryz.f13.body).getD .skip
noncomputable def E_keep_ready (g : C_keep_ready) : Env A := mkE [(35, SS_log_Dupes g.log_Dupes), (36, SS_band_May g.band_May), (37, SS_club_Table g.club_Table), (38, SS_net_Next g.net_Next), (39, SS_keep_errs g.keep_errs)] [(1, [0]), (2, [1]), (17, [2]), (18, [3]), (22, [4]), (25, [5]), (31, [6]), (32, [7]), (38, [8]), (46, [9])] [] [] [] [] [] [] [] []
theorem sm_keep_ready (g : C_keep_ready) : Same (SS_keep_ready (@keep_ready_ g)) (abody (E_keep_ready g) Tryz.f13 code_13 10 [] [.asis] g.N) := by intro args; unfold SS_keep_ready; split; exact .inr fun R k => (by kernel_rfl); exact .inl fun R k => rfl
theorem ok_keep_ready [Fuel] : Ok 13 (SS_keep_ready (@keep_ready _)) := okF_of std (.cons ok_log_Dupes (.cons ok_band_May (.cons ok_club_Table (.cons ok_net_Next (.cons ok_keep_errs .nil))))) ⟨rfl, rfl, by kernel_rfl, rfl, rfl, rfl⟩ (sm_keep_ready I_keep_ready) (cuts0 (fun _ => rfl) (by kernel_rfl)) Tryz.func13 (by kernel_rfl) (by kernel_rfl)
abbrev T_keep_LogsStay : Type 1 := List Int → {R : Type} → (Bool → Option R) → Option R
structure C_keep_LogsStay where
 N : Nat
 z24z : T_z24z
 z20z : T_z20z
 z43z : T_z43z
 z44z : T_z44z
 z51z : T_z51z
 z82z : T_z82z
 z12z : T_z12z
 z38z : T_z38z
 z42z : T_z42z
 keep_ready : T_keep_ready
def keep_LogsStay_ (g : C_keep_LogsStay) (a1 : List Int) {R : Type} (k0 : Bool → Option R) : Option R :=
 (g.z24z (⟨a1, 0⟩ : G_Stream) 8 (fun r2 r3 => (g.z24z (⟨a1, 0⟩ : G_Stream) 8 (fun r4 r5 => (g.z20z r3 r2 (fun r6 r7 => (g.z20z r5 r4 (fun r8 r9 => (g.z43z r2 (fun r10 r11 => (g.z44z r10 (fun r12 => (g.z51z r2 5 (fun r13 r14 => (g.z44z r13 (fun r15 => (g.z82z r2 (fun r16 r17 => (g.z44z r16 (fun r18 => (g.z12z r2 r6 (fun r19 r20 r21 => (g.z44z r19 (fun r22 => (g.z38z r2 r4 (fun r23 => (bif r23 then (g.z42z r6 r8 (fun r24 => (bif r24 then (g.keep_ready (fun r25 => k0 r25)) else k0 false))) else k0 false)))))))))))))))))))))))))))
noncomputable def I_keep_LogsStay [Fuel] : C_keep_LogsStay := ⟨NN, @z24z _, @z20z _, @z43z _, @z44z _, @z51z _, @z82z _, @z12z _, @z38z _, @z42z _, @keep_ready _⟩
noncomputable def keep_LogsStay [Fuel] : T_keep_LogsStay := @keep_LogsStay_ I_keep_LogsStay
def SS_keep_LogsStay (g : T_keep_LogsStay) : Spec A := fun args => match args with | [.d (.sl 3 a1)] => fun k => g a1 (fun z0 => k (.d (.bool z0)) [.undef]) | _ => fun _ => none
noncomputable def code_3 : Code := (Tryz.f3.body).getD .skip
noncomputable def E_keep_LogsStay (g : C_keep_LogsStay) : Env A := mkE [(4, SS_z24z g.z24z), (5, SS_z20z g.z20z), (6, SS_z43z g.z43z), (7, SS_z44z g.z44z), (8, SS_z51z g.z51z), (9, SS_z82z g.z82z), (10, SS_z12z g.z12z), (11, SS_z38z g.z38z), (12, SS_z42z g.z42z), (13, SS_keep_ready g.keep_ready)] [(20, [0]), (23, [1]), (25, [2]), (27, [3]), (30, [4]), (33, [5]), (36, [6]), (43, [7]), (50, [8]), (58, [9, 10])] [] [] [] [] [] [] [(7, 0)] []
theorem sm_keep_LogsStay (g : C_keep_LogsStay) : Same (SS_keep_LogsStay (@keep_LogsStay_ g)) (abody (E_keep_LogsStay g) Tryz.f3 code_3 11 [] [.asis] g.N) := by intro args; unfold SS_keep_LogsStay; split; exact .inr fun R k => (by kernel_rfl); exact .inl fun R k => rfl
theorem ok_keep_LogsStay [Fuel] : Ok 3 (SS_keep_LogsStay (@keep_LogsStay _)) := okF_of std (.cons ok_z24z (.cons ok_z20z (.cons ok_z43z (.cons ok_z44z (.cons ok_z51z (.cons ok_z82z (.cons ok_z12z (.cons ok_z38z (.cons ok_z42z (.cons ok_keep_ready .nil)))))))))) ⟨rfl, rfl, by kernel_rfl, rfl, rfl, rfl⟩ (sm_keep_LogsStay I_keep_LogsStay) (cuts0 (fun _ => rfl) (by kernel_rfl)) Tryz.func3 (by kernel_rfl) (by kernel_rfl)
end Go.Am
