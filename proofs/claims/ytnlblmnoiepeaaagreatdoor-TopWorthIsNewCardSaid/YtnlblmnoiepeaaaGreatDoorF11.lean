/- The functions of the program as Lean functions, each shown to be what the code computes, part 11. No condition: lemmas for the claim. -/
import Derived.Test.YtnlblmnoiepeaaaGreatDoorF0
import Derived.Test.YtnlblmnoiepeaaaGreatDoorFSh
import Derived.Test.YtnlblmnoiepeaaaGreatDoorF1
import Derived.Test.YtnlblmnoiepeaaaGreatDoorF3
import Derived.Test.YtnlblmnoiepeaaaGreatDoorF5
import Derived.Test.YtnlblmnoiepeaaaGreatDoorF8
import Derived.Test.YtnlblmnoiepeaaaGreatDoorF9
import Derived.Test.YtnlblmnoiepeaaaGreatDoorF10
set_option linter.unusedVariables false
set_option maxRecDepth 100000
namespace Go.Am
open Go Go.Proofs
abbrev T_z17z : Type 1 := List G_Deed → List G_Contact → List (List UInt8) → List Int → List (G_net_own × Bool) → {R : Type} → (List (Int × Int) → List G_Deed → List G_Contact → List (List UInt8) → List Int → List (G_net_own × Bool) → Option R) → Option R
noncomputable def z17z_L3 (g : Nat) : Nat → List (G_net_own × Bool) → List (G_net_own × Bool) → List (Int × Int) → List G_Deed → List G_Contact → List (List UInt8) → List Int → {R : Type} → (List (G_net_own × Bool) → List (Int × Int) → List G_Deed → List G_Contact → List (List UInt8) → List Int → Option R) → Option R
 | 0, _, _, _, _, _, _, _, _, _ => none
 | n + 1, m11, l12, v6, v7, v8, v9, v10, _, e0 => (pickAll l12 (e0 m11 v6 v7 v8 v9 v10) fun x15 l16 => z17z_L3 g n m11 l16 (mset_int_int x15.1.f_no (w64 (((mget_int_int x15.1.f_no v6).getD 0) + 1)) v6) v7 v8 v9 v10 e0)
noncomputable def raw_z17z (g : Nat) (a1 : List G_Deed) (a2 : List G_Contact) (a3 : List (List UInt8)) (a4 : List Int) (a5 : List (G_net_own × Bool)) {R : Type} (k0 : List (Int × Int) → List G_Deed → List G_Contact → List (List UInt8) → List Int → List (G_net_own × Bool) → Option R) : Option R :=
 (z17z_L3 g g a5 a5 [] a1 a2 a3 a4 (fun e17 e18 e19 e20 e21 e22 => k0 e18 e19 e20 e21 e22 e17))
def dec0_z17z (p : IV A × List (IV A)) : Option ((List (Int × Int)) × (List G_Deed) × (List G_Contact) × (List (List UInt8)) × (List Int) × (List (G_net_own × Bool))) := match p with | (.mp 3 3 b1, [.box [.arr 93 b2, .arr 38 b3, .arr 9 b4, .arr 3 b5, .mp 225 4 b6]]) => some (b1, b2, b3, b4, b5, b6) | _ => none
def inj0_z17z (q : (List (Int × Int)) × (List G_Deed) × (List G_Contact) × (List (List UInt8)) × (List Int) × (List (G_net_own × Bool))) : IV A × List (IV A) := (.mp 3 3 q.1, [.box [.arr 93 q.2.1, .arr 38 q.2.2.1, .arr 9 q.2.2.2.1, .arr 3 q.2.2.2.2.1, .mp 225 4 q.2.2.2.2.2]])
theorem hi0_z17z (p : IV A × List (IV A)) (q : (List (Int × Int)) × (List G_Deed) × (List G_Contact) × (List (List UInt8)) × (List Int) × (List (G_net_own × Bool))) (h : dec0_z17z p = some q) : p = inj0_z17z q := by unfold dec0_z17z at h; split at h; (cases h; rfl); cases h
noncomputable def z17z_ (g : Nat) (a1 : List G_Deed) (a2 : List G_Contact) (a3 : List (List UInt8)) (a4 : List Int) (a5 : List (G_net_own × Bool)) {R : Type} (k0 : List (Int × Int) → List G_Deed → List G_Contact → List (List UInt8) → List Int → List (G_net_own × Bool) → Option R) : Option R :=
 (raw_z17z g a1 a2 a3 a4 a5 (fun z0 z1 z2 z3 z4 z5 => some (inj0_z17z (z0, z1, z2, z3, z4, z5)))).bind fun p => (decK dec0_z17z p (fun q => k0 q.1 q.2.1 q.2.2.1 q.2.2.2.1 q.2.2.2.2.1 q.2.2.2.2.2) none)
noncomputable def z17z [Fuel] : T_z17z := @z17z_ NN
def SS_z17z (g : T_z17z) : Spec A := fun args => match args with | [.box [.arr 93 a1, .arr 38 a2, .arr 9 a3, .arr 3 a4, .mp 225 4 a5]] => fun k => g a1 a2 a3 a4 a5 (fun z0 z1 z2 z3 z4 z5 => k (.mp 3 3 z0) [.box [.arr 93 z1, .arr 38 z2, .arr 9 z3, .arr 3 z4, .mp 225 4 z5]]) | _ => fun _ => none
def sh_z17z_L3 : SSt := mkSh 21 12 [(0, .ptr 0 0), (3, .mp 6), (9, .mp 5)] [(0, .box [.own 93 7, .own 38 8, .own 9 9, .own 3 10, .mp 5]), (5, .gone (2, 0)), (6, .mp 3 3), (7, .row 93), (8, .row 38), (9, .row 9), (10, .row 3)]
noncomputable def LP_z17z_L3 (g : Nat) (n : Nat) (m l : List (A 225 × A 4)) : LPT A := fun ps => match ps with | [.mp 3 3 p1, .d (.sl 93 p2), .d (.sl 38 p3), .d (.sl 9 p4), .d (.sl 3 p5)] => fun K => z17z_L3 g n m l p1 p2 p3 p4 p5 (fun z0 z1 z2 z3 z4 z5 => K .normal (mkSt 21 12 [(0, .ptr 0 0), (3, .mp 6)] [(0, some (.box [.own 93 7, .own 38 8, .own 9 9, .own 3 10, .mp 5])), (5, some (.mp 225 4 z0)), (6, some (.mp 3 3 z1)), (7, some (.row 93 z2)), (8, some (.row 38 z3)), (9, some (.row 9 z4)), (10, some (.row 3 z5))])) | _ => fun _ => none
noncomputable def code_138 : Code := (Tryz.f138.body).getD .skip
noncomputable def E_z17z (g : Nat) : Env A := mkE [] [(4, [11]), (5, [6])] [(3, ⟨[0, 3, 9], [], [0, 5, 6], [(0, 0, 93, 7), (0, 1, 38, 8), (0, 2, 9, 9), (0, 3, 3, 10)], [], [], []⟩)] [(3, ⟨[0, 3], [], [0, 5, 6, 7, 8, 9, 10], [], [], [], []⟩)] [] [] [] [] [] [0]
noncomputable def CR_z17z (g : Nat) : Nat → Option (PieceR A) := fun i => List.lookup i [(3, pieceR 5 225 4 sh_z17z_L3 (LP_z17z_L3 g g))]
theorem ct_z17z [Fuel] : NatTab (E_z17z NN).C := ct_of (P := Tryz.prog) (T := T) .nil (by kernel_rfl)
noncomputable def rp_z17z_L3 : RangeP := (rangeOf (sub [1, 1, 0, 0] code_138) (sub [1, 1, 0, 1] code_138)).get (by kernel_rfl)
theorem s_z17z_L3 (g : Nat) (n : Nat) : RStepOk (E_z17z g) g rp_z17z_L3 5 225 4 sh_z17z_L3 (LP_z17z_L3 g) n := by intro m l ps; unfold LP_z17z_L3; split; exact .inr fun R K => (by kernel_rfl); exact .inl fun R K => rfl
theorem lf_z17z_L3 [Fuel] : ROk (E_z17z NN) (CR_z17z NN) NN rp_z17z_L3 := fine_range sh_z17z_L3 (LP_z17z_L3 NN) (by kernel_rfl) (cuts0 (fun _ => rfl) (by kernel_rfl)) (fun m l ps R K => by unfold LP_z17z_L3; split <;> (try unfold z17z_L3) <;> rfl) (s_z17z_L3 NN)
theorem sm_z17z (g : Nat) : Same (SS_z17z (@raw_z17z g)) (abodyR (E_z17z g) (CR_z17z g) Tryz.f138 code_138 12 [0, 1, 2, 3, 4, 5] [.asis] g) := by intro args; unfold SS_z17z; split; exact .inr fun R k => (by kernel_rfl); exact .inl fun R k => rfl
theorem wh_z17z (g : Nat) : Whole (SS_z17z (@z17z_ g)) (SS_z17z (@raw_z17z g)) := by
 intro args R k res h
 unfold SS_z17z at h
 split at h
 ·obtain ⟨p, hp, h⟩ := Option.bind_eq_some_iff.1 h
  exact ⟨p, hp, (decK_hc (inj := inj0_z17z) hi0_z17z (fun h => (by cases h)) h)⟩
 ·cases h
theorem nx_z17z (g : Nat) : NatSpec (SS_z17z (@z17z_ g)) := by
 intro args R k
 unfold SS_z17z
 split
 ·unfold z17z_
  rw [Option.bind_assoc]
  exact congrArg (Option.bind _) (funext fun p => (decK_na (inj := inj0_z17z) rfl))
 ·rfl
theorem ok_z17z [Fuel] : Ok 138 (SS_z17z (@z17z _)) := okR_of std .nil ⟨rfl, rfl, by kernel_rfl, rfl, rfl, rfl⟩ (sm_z17z NN) (wh_z17z NN) (nx_z17z NN) (cutsR (fun _ => rfl) .nil (.cons lf_z17z_L3 .nil) (by kernel_rfl) (by kernel_rfl)) Tryz.func138 (by kernel_rfl) (by kernel_rfl)
abbrev T_z22z : Type 1 := List G_Deed → List G_Contact → List (List UInt8) → List Int → List (G_net_own × Bool) → {R : Type} → (Int → Int → List G_Deed → List G_Contact → List (List UInt8) → List Int → List (G_net_own × Bool) → Option R) → Option R
structure C_z22z where
 N : Nat
 z40z : T_z40z
 z17z : T_z17z
def z22z_L3 (g : C_z22z) : Nat → Int → List (Int × Int) → List (G_net_own × Bool) → List (Int × Int) → List G_Deed → List G_Contact → List (List UInt8) → List Int → {R : Type} → (Int → Int → List (G_net_own × Bool) → List G_Deed → List G_Contact → List (List UInt8) → List Int → Option R) → (List (G_net_own × Bool) → List G_Deed → List G_Contact → List (List UInt8) → List Int → Option R) → Option R
 | 0, _, _, _, _, _, _, _, _, _, _, _ => none
 | n + 1, v18, v19, v20, v21, v22, v23, v24, v25, _, e0, e1 => (bif (decide (v18 ≤ 99999)) then (bif (((mget_int_int v18 v19).getD 0) == 0) then (bif (((mget_int_int v18 v21).getD 0) == 0) then e0 v18 0 v20 v22 v23 v24 v25 else z22z_L3 g n (w64 (v18 + 1)) v19 v20 v21 v22 v23 v24 v25 e0 e1) else z22z_L3 g n (w64 (v18 + 1)) v19 v20 v21 v22 v23 v24 v25 e0 e1) else e1 v20 v22 v23 v24 v25)
def z22z_ (g : C_z22z) (a1 : List G_Deed) (a2 : List G_Contact) (a3 : List (List UInt8)) (a4 : List Int) (a5 : List (G_net_own × Bool)) {R : Type} (k0 : Int → Int → List G_Deed → List G_Contact → List (List UInt8) → List Int → List (G_net_own × Bool) → Option R) : Option R :=
 (g.z40z a1 a2 a3 a4 a5 (fun r6 r7 r8 r9 r10 r11 => (g.z17z r7 r8 r9 r10 r11 (fun r12 r13 r14 r15 r16 r17 => (z22z_L3 g g.N 1 r6 r17 r12 r13 r14 r15 r16 (fun e26 e27 e28 e29 e30 e31 e32 => k0 e26 e27 e29 e30 e31 e32 e28) (fun e33 e34 e35 e36 e37 => k0 0 12 e34 e35 e36 e37 e33))))))
noncomputable def I_z22z [Fuel] : C_z22z := ⟨NN, @z40z _, @z17z _⟩
noncomputable def z22z [Fuel] : T_z22z := @z22z_ I_z22z
def p_z22z (args : List (IV A)) : Bool := match args with | [.box [.arr 93 _, .arr 38 _, .arr 9 _, .arr 3 _, .mp 225 4 _]] => true | _ => false
def SS_z22z (g : T_z22z) : Spec A := fun args => match args with | [.box [.arr 93 a1, .arr 38 a2, .arr 9 a3, .arr 3 a4, .mp 225 4 a5]] => fun k => g a1 a2 a3 a4 a5 (fun z0 z1 z2 z3 z4 z5 z6 => k (.tup [.d (.int .i64 z0), .d (.int .i64 z1)]) [.box [.arr 93 z2, .arr 38 z3, .arr 9 z4, .arr 3 z5, .mp 225 4 z6]]) | _ => fun _ => none
def sh_z22z_L3 : SSt := mkSh 26 22 [(0, .ptr 0 0), (4, .mp 11), (5, .mp 17), (6, .int .i64)] [(0, .box [.own 93 18, .own 38 19, .own 9 20, .own 3 21, .mp 16]), (11, .mp 3 3), (16, .mp 225 4), (17, .mp 3 3), (18, .row 93), (19, .row 38), (20, .row 9), (21, .row 3)]
def LP_z22z_L3 (g : C_z22z) (n : Nat) : LPT A := fun ps => match ps with | [.d (.int .i64 p1), .mp 3 3 p2, .mp 225 4 p3, .mp 3 3 p4, .d (.sl 93 p5), .d (.sl 38 p6), .d (.sl 9 p7), .d (.sl 3 p8)] => fun K => z22z_L3 g n p1 p2 p3 p4 p5 p6 p7 p8 (fun z0 z1 z2 z3 z4 z5 z6 => K .ret (mkSt 26 22 [(0, .ptr 0 0), (2, .d (.int .i64 z0)), (3, .d (.int .i64 z1))] [(0, some (.box [.own 93 18, .own 38 19, .own 9 20, .own 3 21, .mp 16])), (16, some (.mp 225 4 z2)), (18, some (.row 93 z3)), (19, some (.row 38 z4)), (20, some (.row 9 z5)), (21, some (.row 3 z6))])) (fun z0 z1 z2 z3 z4 => K (.exit 0) (mkSt 26 22 [(0, .ptr 0 0)] [(0, some (.box [.own 93 18, .own 38 19, .own 9 20, .own 3 21, .mp 16])), (16, some (.mp 225 4 z0)), (18, some (.row 93 z1)), (19, some (.row 38 z2)), (20, some (.row 9 z3)), (21, some (.row 3 z4))])) | _ => fun _ => none
noncomputable def E_z22z (g : C_z22z) : Env A := mkE [(137, SS_z40z g.z40z), (138, SS_z17z g.z17z)] [(8, [6, 7, 8, 9, 10, 11]), (10, [12, 13, 14, 15, 16, 17])] [(3, ⟨[0, 4, 5, 6], [], [0, 11, 16, 17], [(0, 0, 93, 18), (0, 1, 38, 19), (0, 2, 9, 20), (0, 3, 3, 21)], [], [], []⟩)] [(3, ⟨[0, 2, 3], [], [0, 16, 18, 19, 20, 21], [], [], [], []⟩)] [(3, pieceOf sh_z22z_L3 (LP_z22z_L3 g g.N))] [] [] [] [] [0]
theorem ct_z22z [Fuel] : NatTab (E_z22z I_z22z).C := ct_of (P := Tryz.prog) (T := T) (.cons ok_z40z (.cons ok_z17z .nil)) (by kernel_rfl)
noncomputable def cb_z22z_L3 : Code := sub [1, 1, 0, 1, 0, 0] code_88
theorem s_z22z_L3 (g : C_z22z) (n : Nat) : StepOk (E_z22z g) g.N cb_z22z_L3 sh_z22z_L3 (LP_z22z_L3 g) n := by intro ps; unfold LP_z22z_L3; split; exact .inr fun R K => (by kernel_rfl); exact .inl fun R K => rfl
theorem lf_z22z_L3 [Fuel] : LoopFine (E_z22z I_z22z) NN cb_z22z_L3 := fine_loop sh_z22z_L3 (LP_z22z_L3 I_z22z) (by kernel_rfl) ct_z22z (cuts0 (fun _ => rfl) (by kernel_rfl)) (fun ps R K => by unfold LP_z22z_L3; split <;> (try unfold z22z_L3) <;> rfl) (s_z22z_L3 I_z22z)
theorem sm_z22z (g : C_z22z) : Same (SS_z22z (@z22z_ g)) (abody (E_z22z g) Tryz.f88 code_88 22 [0, 1, 2, 3, 4, 5] [.asis, .asis] g.N) := by intro args; unfold SS_z22z; split; exact .inr fun R k => (by kernel_rfl); exact .inl fun R k => rfl
theorem ok_z22z [Fuel] : Ok 88 (SS_z22z (@z22z _)) := okF_of std (.cons ok_z40z (.cons ok_z17z .nil)) ⟨rfl, rfl, by kernel_rfl, rfl, rfl, rfl⟩ (sm_z22z I_z22z) (cutsL (fun _ => rfl) (.cons lf_z22z_L3 .nil) (by kernel_rfl)) Tryz.func88 (by kernel_rfl) (by kernel_rfl)
abbrev T_net_Next : Type 1 := List G_Deed → Int → {R : Type} → (Int → Int → Option R) → Option R
structure C_net_Next where
 N : Nat
 z81z : T_z81z
 z22z : T_z22z
 z68z : T_z68z
def net_Next_ (g : C_net_Next) (a1 : List G_Deed) (a2 : Int) {R : Type} (k0 : Int → Int → Option R) : Option R :=
 (g.z81z a1 a2 (fun r3 => (bif (r3 != 0) then k0 0 r3 else (g.z68z))) (fun r4 r5 r6 r7 r8 r9 => (bif (r9 != 0) then k0 0 r9 else (g.z22z r4 r5 r6 r7 r8 (fun r10 r11 r12 r13 r14 r15 r16 => k0 r10 r11)))))
noncomputable def I_net_Next [Fuel] : C_net_Next := ⟨NN, @z81z _, @z22z _, @z68z _⟩
noncomputable def net_Next [Fuel] : T_net_Next := @net_Next_ I_net_Next
def SS_net_Next (g : T_net_Next) : Spec A := fun args => match args with | [.d (.sl 93 a1), .d (.int .i64 a2)] => fun k => g a1 a2 (fun z0 z1 => k (.tup [.d (.int .i64 z0), .d (.int .i64 z1)]) [.undef, .undef]) | _ => fun _ => none
noncomputable def code_47 : Code := (Tryz.f47.body).getD .skip
noncomputable def E_net_Next (g : C_net_Next) : Env A := mkE [(87, SS_z81z g.z81z), (88, orS p_z22z (SS_z22z g.z22z) (SS_z68z g.z68z))] [(11, [0, 1, 2, 3, 4, 5]), (18, [6, 7, 8, 9, 10])] [] [] [] [] [] [] [] []
theorem sm_net_Next (g : C_net_Next) : Same (SS_net_Next (@net_Next_ g)) (abody (E_net_Next g) Tryz.f47 code_47 11 [] [.asis, .asis] g.N) := by intro args; unfold SS_net_Next; split; exact .inr fun R k => (by kernel_rfl); exact .inl fun R k => rfl
theorem ok_net_Next [Fuel] : Ok 47 (SS_net_Next (@net_Next _)) := okF_of std (.cons ok_z81z (.cons (ok_or p_z22z ok_z22z ok_z68z) .nil)) ⟨rfl, rfl, by kernel_rfl, rfl, rfl, rfl⟩ (sm_net_Next I_net_Next) (cuts0 (fun _ => rfl) (by kernel_rfl)) Tryz.func47 (by kernel_rfl) (by kernel_rfl)
abbrev T_z80z : Type 1 := {R : Type} → (Bool → Option R) → Option R
structure C_z80z where
 N : Nat
 log_Dupes : T_log_Dupes
 club_Table : T_club_Table
 net_Next : T_net_Next
def z80z_ (g : C_z80z)  {R : Type} (k0 : Bool → Option R) : Option R :=
 (g.log_Dupes [(⟨0, 1, [98], [107, 49, 97, 98], 0, 0, [], []⟩ : G_Contact), (⟨5, 1, [98], [107, 49, 97, 98], 0, 0, [], []⟩ : G_Contact)] (fun r1 r2 => (g.club_Table [(⟨[107, 49, 97, 98], [99], 5, []⟩ : G_Entrant)] [99] (fun r3 r4 => (g.net_Next [(⟨[97], 1, 0, 3, (⟨0, 0, [], [], 1, 0, [], []⟩ : G_Contact), [], [], 0⟩ : G_Deed)] 0 (fun r5 r6 => (bif (r2 == 0) then (bif (r4 == 0) then (bif (r6 == 0) then (bif ((r1.length : Int) == 1) then (bif ((r3.length : Int) == 1) then k0 (r5 == 2) else k0 false) else k0 false) else k0 false) else k0 false) else k0 false)))))))
noncomputable def I_z80z [Fuel] : C_z80z := ⟨NN, @log_Dupes _, @club_Table _, @net_Next _⟩
noncomputable def z80z [Fuel] : T_z80z := @z80z_ I_z80z
def SS_z80z (g : T_z80z) : Spec A := fun args => match args with | [] => fun k => g (fun z0 => k (.d (.bool z0)) []) | _ => fun _ => none
noncomputable def code_16 : Code := (Tryz.f16.body).getD .skip
noncomputable def E_z80z (g : C_z80z) : Env A := mkE [(14, SS_log_Dupes g.log_Dupes), (46, SS_club_Table g.club_Table), (47, SS_net_Next g.net_Next)] [(1, [0]), (2, [1]), (15, [2]), (16, [3]), (21, [4]), (22, [5]), (28, [6])] [] [] [] [] [] [] [] []
theorem sm_z80z (g : C_z80z) : Same (SS_z80z (@z80z_ g)) (abody (E_z80z g) Tryz.f16 code_16 7 [] [.asis] g.N) := by intro args; unfold SS_z80z; split; exact .inr fun R k => (by kernel_rfl); exact .inl fun R k => rfl
theorem ok_z80z [Fuel] : Ok 16 (SS_z80z (@z80z _)) := okF_of std (.cons ok_log_Dupes (.cons ok_club_Table (.cons ok_net_Next .nil))) ⟨rfl, rfl, by kernel_rfl, rfl, rfl, rfl⟩ (sm_z80z I_z80z) (cuts0 (fun _ => rfl) (by kernel_rfl)) Tryz.func16 (by kernel_rfl) (by kernel_rfl)
abbrev T_top_TopWorthIsNew : Type 1 := List Int → {R : Type} → (Bool → Option R) → Option R
structure C_top_TopWorthIsNew where
 N : Nat
 z32z : T_z32z
 z30z : T_z30z
 z70z : T_z70z
 z29z : T_z29z
 band_Worth : T_band_Worth
 z10z : T_z10z
 z67z : T_z67z
 log_BandOf : T_log_BandOf
 log_Dupes : T_log_Dupes
 z56z : T_z56z
 z80z : T_z80z
def top_TopWorthIsNew_L9 (g : C_top_TopWorthIsNew) : Nat → Int → Int → Int → List G_Band → List G_Spot → List G_Contact → {R : Type} → (Bool → Option R) → Option R → Option R
 | 0, _, _, _, _, _, _, _, _, _ => none
 | n + 1, v16, v17, v18, v19, v20, v21, _, e0, e1 => (bif (decide (v18 < v17)) then (inr v20 v18 (at_ v20 v18 fun x30 => (g.log_BandOf v19 x30.f_Hertz (fun r31 r32 r33 => (bif (r33 != 0) then e0 false else (bif (!r32) then e0 false else (g.z67z v21 (fun r34 => (bif (decide ((r34.length + [(⟨v16, 1, r31, x30.f_Call, 0, 0, [], []⟩ : G_Contact)].length) * 96 ≤ roomBytes')) then (g.log_Dupes (r34 ++ [(⟨v16, 1, r31, x30.f_Call, 0, 0, [], []⟩ : G_Contact)]) (fun r35 r36 => (bif (r36 != 0) then e0 false else (g.z56z r35 (v21.length : Int) (fun r37 => (bif r37 then e0 false else top_TopWorthIsNew_L9 g n v16 v17 (w64 (v18 + 1)) v19 v20 v21 e0 e1)))))) else none))))))))) else e1)
def top_TopWorthIsNew_ (g : C_top_TopWorthIsNew) (a1 : List Int) {R : Type} (k0 : Bool → Option R) : Option R :=
 (g.z32z (⟨a1, 0⟩ : G_Stream) (fun r2 r3 => (g.z70z r3 0 12 (fun r4 r5 => (g.z30z r5 r4 (fun r6 r7 => (g.z70z r7 0 8 (fun r8 r9 => (g.z29z r9 r8 (fun r10 r11 => (g.band_Worth r2 r6 r10 1 86400000 200 14000000 (fun r12 r13 => (bif (r13 != 0) then k0 false else (g.z67z r10 (fun r14 => (g.z10z r14 (fun r15 => (top_TopWorthIsNew_L9 g g.N 100000000 (r12.length : Int) 0 r2 r12 r15 (fun e38 => k0 e38) (g.z80z (fun r39 => k0 r39))))))))))))))))))))
noncomputable def I_top_TopWorthIsNew [Fuel] : C_top_TopWorthIsNew := ⟨NN, @z32z _, @z30z _, @z70z _, @z29z _, @band_Worth _, @z10z _, @z67z _, @log_BandOf _, @log_Dupes _, @z56z _, @z80z _⟩
noncomputable def top_TopWorthIsNew [Fuel] : T_top_TopWorthIsNew := @top_TopWorthIsNew_ I_top_TopWorthIsNew
def SS_top_TopWorthIsNew (g : T_top_TopWorthIsNew) : Spec A := fun args => match args with | [.d (.sl 3 a1)] => fun k => g a1 (fun z0 => k (.d (.bool z0)) [.undef]) | _ => fun _ => none
def sh_top_TopWorthIsNew_L9 : SSt := mkSh 87 12 [(4, .own 62 1), (6, .own 38 6), (7, .int .i64), (43, .own 42 4), (44, .int .i64), (45, .int .i64)] [(1, .row 62), (4, .row 42), (6, .row 38)]
def LP_top_TopWorthIsNew_L9 (g : C_top_TopWorthIsNew) (n : Nat) : LPT A := fun ps => match ps with | [.d (.int .i64 p1), .d (.int .i64 p2), .d (.int .i64 p3), .d (.sl 62 p4), .d (.sl 42 p5), .d (.sl 38 p6)] => fun K => top_TopWorthIsNew_L9 g n p1 p2 p3 p4 p5 p6 (fun z0 => K .ret (mkSt 87 12 [(2, .d (.bool z0))] [])) (K (.exit 0) (mkSt 87 12 [] [])) | _ => fun _ => none
noncomputable def code_3 : Code := (Tryz.f3.body).getD .skip
noncomputable def E_top_TopWorthIsNew (g : C_top_TopWorthIsNew) : Env A := mkE [(5, SS_z32z g.z32z), (6, SS_z30z g.z30z), (7, SS_z70z g.z70z), (8, SS_z29z g.z29z), (9, SS_band_Worth g.band_Worth), (10, SS_z10z g.z10z), (11, SS_z67z g.z67z), (13, SS_log_BandOf g.log_BandOf), (14, SS_log_Dupes g.log_Dupes), (15, SS_z56z g.z56z), (16, SS_z80z g.z80z)] [(11, [7]), (20, [0]), (22, [1]), (26, [2]), (30, [3]), (35, [4]), (41, [5]), (42, [6]), (64, [9]), (70, [8]), (71, [10]), (74, [11])] [(9, ⟨[4, 6, 7, 43, 44, 45], [], [1, 4, 6], [], [], [], []⟩)] [(9, ⟨[2], [], [], [], [], [], []⟩)] [(9, pieceOf sh_top_TopWorthIsNew_L9 (LP_top_TopWorthIsNew_L9 g g.N))] [] [] [] [(10, 0)] []
theorem ct_top_TopWorthIsNew [Fuel] : NatTab (E_top_TopWorthIsNew I_top_TopWorthIsNew).C := ct_of (P := Tryz.prog) (T := T) (.cons ok_z32z (.cons ok_z30z (.cons ok_z70z (.cons ok_z29z (.cons ok_band_Worth (.cons ok_z10z (.cons ok_z67z (.cons ok_log_BandOf (.cons ok_log_Dupes (.cons ok_z56z (.cons ok_z80z .nil))))))))))) (by kernel_rfl)
noncomputable def cb_top_TopWorthIsNew_L9 : Code := sub [1, 1, 1, 1, 1, 1, 1, 0, 1, 0, 0] code_3
theorem s_top_TopWorthIsNew_L9 (g : C_top_TopWorthIsNew) (n : Nat) : StepOk (E_top_TopWorthIsNew g) g.N cb_top_TopWorthIsNew_L9 sh_top_TopWorthIsNew_L9 (LP_top_TopWorthIsNew_L9 g) n := by intro ps; unfold LP_top_TopWorthIsNew_L9; split; exact .inr fun R K => (by kernel_rfl); exact .inl fun R K => rfl
theorem lf_top_TopWorthIsNew_L9 [Fuel] : LoopFine (E_top_TopWorthIsNew I_top_TopWorthIsNew) NN cb_top_TopWorthIsNew_L9 := fine_loop sh_top_TopWorthIsNew_L9 (LP_top_TopWorthIsNew_L9 I_top_TopWorthIsNew) (by kernel_rfl) ct_top_TopWorthIsNew (cuts0 (fun _ => rfl) (by kernel_rfl)) (fun ps R K => by unfold LP_top_TopWorthIsNew_L9; split <;> (try unfold top_TopWorthIsNew_L9) <;> rfl) (s_top_TopWorthIsNew_L9 I_top_TopWorthIsNew)
theorem sm_top_TopWorthIsNew (g : C_top_TopWorthIsNew) : Same (SS_top_TopWorthIsNew (@top_TopWorthIsNew_ g)) (abody (E_top_TopWorthIsNew g) Tryz.f3 code_3 12 [] [.asis] g.N) := by intro args; unfold SS_top_TopWorthIsNew; split; exact .inr fun R k => (by kernel_rfl); exact .inl fun R k => rfl
theorem ok_top_TopWorthIsNew [Fuel] : Ok 3 (SS_top_TopWorthIsNew (@top_TopWorthIsNew _)) := okF_of std (.cons ok_z32z (.cons ok_z30z (.cons ok_z70z (.cons ok_z29z (.cons ok_band_Worth (.cons ok_z10z (.cons ok_z67z (.cons ok_log_BandOf (.cons ok_log_Dupes (.cons ok_z56z (.cons ok_z80z .nil))))))))))) ⟨rfl, rfl, by kernel_rfl, rfl, rfl, rfl⟩ (sm_top_TopWorthIsNew I_top_TopWorthIsNew) (cutsL (fun _ => rfl) (.cons lf_top_TopWorthIsNew_L9 .nil) (by kernel_rfl)) Tryz.func3 (by kernel_rfl) (by kernel_rfl)
end Go.Am
