/- The functions of the program as Lean functions, each shown to be what the code computes, part 7. No condition: lemmas for the claim. -/
import Derived.Test.YtdpapgakljjnnaaGreatDoorF0
import Derived.Test.YtdpapgakljjnnaaGreatDoorFSh
import Derived.Test.YtdpapgakljjnnaaGreatDoorF1
import Derived.Test.YtdpapgakljjnnaaGreatDoorF2
import Derived.Test.YtdpapgakljjnnaaGreatDoorF3
import Derived.Test.YtdpapgakljjnnaaGreatDoorF5
set_option linter.unusedVariables false
set_option maxRecDepth 100000
namespace Go.Am
open Go Go.Proofs
abbrev T_z9z : Type 1 := Int → List G_Deed → List G_Deed → {R : Type} → (Bool → Option R) → Option R
structure C_z9z where
 N : Nat
 z9z : T_z9z
def z9z_L2 (g : C_z9z) : Nat → Int → List G_Deed → List G_Deed → Int → {R : Type} → (Bool → Option R) → Option R → Option R
 | 0, _, _, _, _, _, _, _ => none
 | n + 1, v4, v5, v6, v7, _, e0, e1 => (bif (decide (v7 < (v5.length : Int))) then (get_ v5 v7 fun x14 => (bif (x14.f_Kind == 5) then (get_ v5 v7 fun x15 => (get_ v5 v4 fun x16 => (bif (x15.f_Of == x16.f_Site) then (get_ v5 v7 fun x17 => (get_ v5 v4 fun x18 => (bif (x17.f_Other == x18.f_No) then (g.z9z v7 v6 v6 (fun r19 => (bif r19 then e0 false else z9z_L2 g n v4 v5 v6 (w64 (v7 + 1)) e0 e1))) else z9z_L2 g n v4 v5 v6 (w64 (v7 + 1)) e0 e1))) else z9z_L2 g n v4 v5 v6 (w64 (v7 + 1)) e0 e1))) else z9z_L2 g n v4 v5 v6 (w64 (v7 + 1)) e0 e1)) else e1)
def z9z_ (g : C_z9z) (a1 : Int) (a2 a3 : List G_Deed) {R : Type} (k0 : Bool → Option R) : Option R :=
 (z9z_L2 g g.N a1 a2 a3 (w64 (a1 + 1)) (fun e20 => k0 e20) (k0 true))
noncomputable def rec_z9z [Fuel] : Nat → T_z9z
 | 0 => fun _ _ _ {_} _ => none
 | q + 1 => fun a1 a2 a3 {_} k0 => z9z_ ⟨NN, (rec_z9z q)⟩ a1 a2 a3 k0
noncomputable def IR_z9z [Fuel] (q : Nat) : C_z9z := ⟨NN, (rec_z9z q)⟩
noncomputable def I_z9z [Fuel] : C_z9z := IR_z9z NN
noncomputable def z9z [Fuel] : T_z9z := @z9z_ I_z9z
def SS_z9z (g : T_z9z) : Spec A := fun args => match args with | [.d (.int .i64 a1), .cel [.sl 35 a2] 0, .cel [.clo 69 35 a3] 0] => fun k => g a1 a2 a3 (fun z0 => k (.d (.bool z0)) [.undef, .undef, .undef]) | _ => fun _ => none
def sh_z9z_L2 : SSt := mkSh 51 0 [(0, .int .i64), (1, .cel [.sl 35] 0), (2, .cel [.clo 69 35] 0), (5, .int .i64)] []
def LP_z9z_L2 (g : C_z9z) (n : Nat) : LPT A := fun ps => match ps with | [.d (.int .i64 p1), .d (.sl 35 p2), .d (.sl 35 p3), .d (.int .i64 p4)] => fun K => z9z_L2 g n p1 p2 p3 p4 (fun z0 => K .ret (mkSt 51 0 [(4, .d (.bool z0))] [])) (K (.exit 0) (mkSt 51 0 [] [])) | _ => fun _ => none
noncomputable def code_69 : Code := (Tryz.f69.body).getD .skip
noncomputable def E_z9z (g : C_z9z) : Env A := mkE [(69, SS_z9z g.z9z)] [] [(2, ⟨[0, 1, 2, 5], [], [], [], [], [], []⟩)] [(2, ⟨[4], [], [], [], [], [], []⟩)] [(2, pieceOf sh_z9z_L2 (LP_z9z_L2 g g.N))] [] [] [] [] []
theorem ct_z9z [Fuel] (q : Nat) (hq : Ok 69 (SS_z9z (@rec_z9z _ q))) : NatTab (E_z9z (IR_z9z q)).C := ct_of (P := Tryz.prog) (T := T) (.cons hq .nil) (by kernel_rfl)
noncomputable def cb_z9z_L2 : Code := sub [1, 0, 1, 0, 0] code_69
theorem s_z9z_L2 (g : C_z9z) (n : Nat) : StepOk (E_z9z g) g.N cb_z9z_L2 sh_z9z_L2 (LP_z9z_L2 g) n := by intro ps; unfold LP_z9z_L2; split; exact .inr fun R K => (by kernel_rfl); exact .inl fun R K => rfl
theorem lf_z9z_L2 [Fuel] (q : Nat) (hq : Ok 69 (SS_z9z (@rec_z9z _ q))) : LoopFine (E_z9z (IR_z9z q)) NN cb_z9z_L2 := fine_loop sh_z9z_L2 (LP_z9z_L2 (IR_z9z q)) (by kernel_rfl) (ct_z9z q hq) (cuts0 (fun _ => rfl) (by kernel_rfl)) (fun ps R K => by unfold LP_z9z_L2; split <;> (try unfold z9z_L2) <;> rfl) (s_z9z_L2 (IR_z9z q))
theorem sm_z9z (g : C_z9z) : Same (SS_z9z (@z9z_ g)) (abody (E_z9z g) Tryz.f69 code_69 0 [] [.asis] g.N) := by intro args; unfold SS_z9z; split; exact .inr fun R k => (by kernel_rfl); exact .inl fun R k => rfl
theorem okq_z9z [Fuel] (q : Nat) (hq : Ok 69 (SS_z9z (@rec_z9z _ q))) : Ok 69 (SS_z9z (@rec_z9z _ (q + 1))) := okF_of std (.cons hq .nil) ⟨rfl, rfl, by kernel_rfl, rfl, rfl, rfl⟩ (sm_z9z (IR_z9z q)) (cutsL (fun _ => rfl) (.cons (lf_z9z_L2 q hq) .nil) (by kernel_rfl)) Tryz.func69 (by kernel_rfl) (by kernel_rfl)
theorem okr_z9z [Fuel] : ∀ q, Ok 69 (SS_z9z (@rec_z9z _ q))
 | 0 => okF_never (fun args R k => by unfold SS_z9z; split <;> rfl) (enters_of (fn := Tryz.f69) Tryz.func69 (by kernel_rfl) (by kernel_rfl))
 | q + 1 => okq_z9z q (okr_z9z q)
theorem ok_z9z [Fuel] : Ok 69 (SS_z9z (@z9z _)) := okq_z9z NN (okr_z9z NN)
abbrev T_z5z : Type 1 := List G_Deed → Int → {R : Type} → (List Int → Option R) → Option R
structure C_z5z where
 N : Nat
 z9z : T_z9z
def z5z_L3 (g : C_z5z) : Nat → Int → List G_Deed → Int → Int → List G_Deed → {R : Type} → (List G_Deed → Option R) → Option R
 | 0, _, _, _, _, _, _, _ => none
 | n + 1, v3, v4, v5, v6, v7, _, e0 => (bif (decide (v6 < v5)) then (get_ v4 v6 fun x9 => (bif (decide (x9.f_At ≤ v3)) then (bif (decide ((v7.length + [x9].length) * 176 ≤ roomBytes')) then z5z_L3 g n v3 v4 v5 (w64 (v6 + 1)) (v7 ++ [x9]) e0 else none) else z5z_L3 g n v3 v4 v5 (w64 (v6 + 1)) v7 e0)) else e0 v7)
def z5z_L12 (g : C_z5z) : Nat → List G_Deed → Int → Int → List Int → {R : Type} → (List Int → Option R) → Option R
 | 0, _, _, _, _, _, _ => none
 | n + 1, v11, v12, v13, v14, _, e0 => (bif (decide (v13 < v12)) then (g.z9z v13 v11 v11 (fun r16 => (bif r16 then (bif (decide ((v14.length + [v13].length) * 8 ≤ roomBytes')) then z5z_L12 g n v11 v12 (w64 (v13 + 1)) (v14 ++ [v13]) e0 else none) else z5z_L12 g n v11 v12 (w64 (v13 + 1)) v14 e0))) else e0 v14)
def z5z_ (g : C_z5z) (a1 : List G_Deed) (a2 : Int) {R : Type} (k0 : List Int → Option R) : Option R :=
 (z5z_L3 g g.N a2 a1 (a1.length : Int) 0 [] (fun e10 => (z5z_L12 g g.N e10 (e10.length : Int) 0 [] (fun e17 => k0 e17))))
noncomputable def I_z5z [Fuel] : C_z5z := ⟨NN, @z9z _⟩
noncomputable def z5z [Fuel] : T_z5z := @z5z_ I_z5z
def SS_z5z (g : T_z5z) : Spec A := fun args => match args with | [.d (.sl 35 a1), .d (.int .i64 a2)] => fun k => g a1 a2 (fun z0 => k (.arr 3 z0) [.undef, .undef]) | _ => fun _ => none
def sh_z5z_L3 : SSt := mkSh 41 9 [(1, .int .i64), (5, .ptr 0 0), (11, .sl 35), (12, .int .i64), (13, .int .i64)] [(0, .box [.own 35 1]), (1, .row 35)]
def LP_z5z_L3 (g : C_z5z) (n : Nat) : LPT A := fun ps => match ps with | [.d (.int .i64 p1), .d (.sl 35 p2), .d (.int .i64 p3), .d (.int .i64 p4), .d (.sl 35 p5)] => fun K => z5z_L3 g n p1 p2 p3 p4 p5 (fun z0 => K (.exit 0) (mkSt 41 9 [(5, .ptr 0 0)] [(0, some (.box [.own 35 1])), (1, some (.row 35 z0))])) | _ => fun _ => none
def sh_z5z_L12 : SSt := mkSh 41 9 [(8, .cel [.clo 69 35] 0), (9, .own 3 6), (28, .int .i64), (29, .int .i64)] [(6, .row 3)]
def LP_z5z_L12 (g : C_z5z) (n : Nat) : LPT A := fun ps => match ps with | [.d (.sl 35 p1), .d (.int .i64 p2), .d (.int .i64 p3), .d (.sl 3 p4)] => fun K => z5z_L12 g n p1 p2 p3 p4 (fun z0 => K (.exit 2) (mkSt 41 9 [(9, .own 3 6)] [(6, some (.row 3 z0))])) | _ => fun _ => none
noncomputable def code_19 : Code := (Tryz.f19.body).getD .skip
noncomputable def E_z5z (g : C_z5z) : Env A := mkE [(69, SS_z9z g.z9z)] [(5, [0]), (7, [2]), (8, [5]), (23, [3]), (24, [4]), (37, [7]), (38, [8])] [(3, ⟨[1, 5, 11, 12, 13], [], [0], [(0, 0, 35, 1)], [], [], []⟩), (12, ⟨[8, 9, 28, 29], [(9, 3, 6)], [], [], [(0, 0)], [], [0, 5]⟩)] [(3, ⟨[5], [], [0, 1], [], [], [], []⟩), (12, ⟨[9], [], [6], [], [], [], []⟩)] [(3, pieceOf sh_z5z_L3 (LP_z5z_L3 g g.N)), (12, pieceOf sh_z5z_L12 (LP_z5z_L12 g g.N))] [] [] [] [] []
theorem ct_z5z [Fuel] : NatTab (E_z5z I_z5z).C := ct_of (P := Tryz.prog) (T := T) (.cons ok_z9z .nil) (by kernel_rfl)
noncomputable def cb_z5z_L3 : Code := sub [1, 1, 0, 1, 0, 0] code_19
theorem s_z5z_L3 (g : C_z5z) (n : Nat) : StepOk (E_z5z g) g.N cb_z5z_L3 sh_z5z_L3 (LP_z5z_L3 g) n := by intro ps; unfold LP_z5z_L3; split; exact .inr fun R K => (by kernel_rfl); exact .inl fun R K => rfl
theorem lf_z5z_L3 [Fuel] : LoopFine (E_z5z I_z5z) NN cb_z5z_L3 := fine_loop sh_z5z_L3 (LP_z5z_L3 I_z5z) (by kernel_rfl) ct_z5z (cuts0 (fun _ => rfl) (by kernel_rfl)) (fun ps R K => by unfold LP_z5z_L3; split <;> (try unfold z5z_L3) <;> rfl) (s_z5z_L3 I_z5z)
noncomputable def cb_z5z_L12 : Code := sub [1, 1, 1, 1, 1, 1, 0, 1, 0, 0] code_19
theorem s_z5z_L12 (g : C_z5z) (n : Nat) : StepOk (E_z5z g) g.N cb_z5z_L12 sh_z5z_L12 (LP_z5z_L12 g) n := by intro ps; unfold LP_z5z_L12; split; exact .inr fun R K => (by kernel_rfl); exact .inl fun R K => rfl
theorem lf_z5z_L12 [Fuel] : LoopFine (E_z5z I_z5z) NN cb_z5z_L12 := fine_loop sh_z5z_L12 (LP_z5z_L12 I_z5z) (by kernel_rfl) ct_z5z (cuts0 (fun _ => rfl) (by kernel_rfl)) (fun ps R K => by unfold LP_z5z_L12; split <;> (try unfold z5z_L12) <;> rfl) (s_z5z_L12 I_z5z)
theorem sm_z5z (g : C_z5z) : Same (SS_z5z (@z5z_ g)) (abody (E_z5z g) Tryz.f19 code_19 9 [] [.arr 3] g.N) := by intro args; unfold SS_z5z; split; exact .inr fun R k => (by kernel_rfl); exact .inl fun R k => rfl
theorem ok_z5z [Fuel] : Ok 19 (SS_z5z (@z5z _)) := okF_of std (.cons ok_z9z .nil) ⟨rfl, rfl, by kernel_rfl, rfl, rfl, rfl⟩ (sm_z5z I_z5z) (cutsL (fun _ => rfl) (.cons lf_z5z_L3 (.cons lf_z5z_L12 .nil)) (by kernel_rfl)) Tryz.func19 (by kernel_rfl) (by kernel_rfl)
abbrev T_z11z : Type 1 := List G_Deed → List G_Deed → {R : Type} → (Bool → Option R) → Option R
def z11z_L4 (g : Nat) : Nat → List G_Deed → List G_Deed → Int → Int → {R : Type} → (Bool → Option R) → Option R → Option R
 | 0, _, _, _, _, _, _, _ => none
 | n + 1, v3, v4, v5, v6, _, e0, e1 => (bif (decide (v6 < v5)) then (get_ v3 v6 fun x9 => (get_ v4 v6 fun x10 => (bif (!(eq_G_Deed x9 x10)) then e0 false else z11z_L4 g n v3 v4 v5 (w64 (v6 + 1)) e0 e1))) else e1)
def z11z_ (g : Nat) (a1 a2 : List G_Deed) {R : Type} (k0 : Bool → Option R) : Option R :=
 (bif ((a1.length : Int) != (a2.length : Int)) then k0 false else (z11z_L4 g g a1 a2 (a1.length : Int) 0 (fun e11 => k0 e11) (k0 true)))
noncomputable def z11z [Fuel] : T_z11z := @z11z_ NN
def p_z11z (args : List (IV A)) : Bool := match args with | [.d (.sl 35 _), .d (.sl 35 _)] => true | _ => false
def SS_z11z (g : T_z11z) : Spec A := fun args => match args with | [.d (.sl 35 a1), .d (.sl 35 a2)] => fun k => g a1 a2 (fun z0 => k (.d (.bool z0)) [.undef, .undef]) | _ => fun _ => none
def sh_z11z_L4 : SSt := mkSh 26 0 [(0, .sl 35), (1, .sl 35), (12, .int .i64), (13, .int .i64)] []
def LP_z11z_L4 (g : Nat) (n : Nat) : LPT A := fun ps => match ps with | [.d (.sl 35 p1), .d (.sl 35 p2), .d (.int .i64 p3), .d (.int .i64 p4)] => fun K => z11z_L4 g n p1 p2 p3 p4 (fun z0 => K .ret (mkSt 26 0 [(4, .d (.bool z0))] [])) (K (.exit 0) (mkSt 26 0 [] [])) | _ => fun _ => none
noncomputable def code_21 : Code := (Tryz.f21.body).getD .skip
noncomputable def E_z11z (g : Nat) : Env A := mkE [] [] [(4, ⟨[0, 1, 12, 13], [], [], [], [], [], []⟩)] [(4, ⟨[4], [], [], [], [], [], []⟩)] [(4, pieceOf sh_z11z_L4 (LP_z11z_L4 g g))] [] [] [] [] []
theorem ct_z11z [Fuel] : NatTab (E_z11z NN).C := ct_of (P := Tryz.prog) (T := T) .nil (by kernel_rfl)
noncomputable def cb_z11z_L4 : Code := sub [1, 1, 0, 1, 0, 0] code_21
theorem s_z11z_L4 (g : Nat) (n : Nat) : StepOk (E_z11z g) g cb_z11z_L4 sh_z11z_L4 (LP_z11z_L4 g) n := by intro ps; unfold LP_z11z_L4; split; exact .inr fun R K => (by kernel_rfl); exact .inl fun R K => rfl
theorem lf_z11z_L4 [Fuel] : LoopFine (E_z11z NN) NN cb_z11z_L4 := fine_loop sh_z11z_L4 (LP_z11z_L4 NN) (by kernel_rfl) ct_z11z (cuts0 (fun _ => rfl) (by kernel_rfl)) (fun ps R K => by unfold LP_z11z_L4; split <;> (try unfold z11z_L4) <;> rfl) (s_z11z_L4 NN)
theorem sm_z11z (g : Nat) : Same (SS_z11z (@z11z_ g)) (abody (E_z11z g) Tryz.f21 code_21 0 [] [.asis] g) := by intro args; unfold SS_z11z; split; exact .inr fun R k => (by kernel_rfl); exact .inl fun R k => rfl
theorem ok_z11z [Fuel] : Ok 21 (SS_z11z (@z11z _)) := okF_of std .nil ⟨rfl, rfl, by kernel_rfl, rfl, rfl, rfl⟩ (sm_z11z NN) (cutsL (fun _ => rfl) (.cons lf_z11z_L4 .nil) (by kernel_rfl)) Tryz.func21 (by kernel_rfl) (by kernel_rfl)
abbrev T_z15z : Type 1 := List Int → List Int → {R : Type} → (Bool → Option R) → Option R
def z15z_L4 (g : Nat) : Nat → List Int → List Int → Int → Int → {R : Type} → (Bool → Option R) → Option R → Option R
 | 0, _, _, _, _, _, _, _ => none
 | n + 1, v3, v4, v5, v6, _, e0, e1 => (bif (decide (v6 < v5)) then (get_ v3 v6 fun x9 => (get_ v4 v6 fun x10 => (bif (x9 != x10) then e0 false else z15z_L4 g n v3 v4 v5 (w64 (v6 + 1)) e0 e1))) else e1)
def z15z_ (g : Nat) (a1 a2 : List Int) {R : Type} (k0 : Bool → Option R) : Option R :=
 (bif ((a1.length : Int) != (a2.length : Int)) then k0 false else (z15z_L4 g g a1 a2 (a1.length : Int) 0 (fun e11 => k0 e11) (k0 true)))
noncomputable def z15z [Fuel] : T_z15z := @z15z_ NN
def p_z15z (args : List (IV A)) : Bool := match args with | [.d (.sl 3 _), .d (.sl 3 _)] => true | _ => false
def SS_z15z (g : T_z15z) : Spec A := fun args => match args with | [.d (.sl 3 a1), .d (.sl 3 a2)] => fun k => g a1 a2 (fun z0 => k (.d (.bool z0)) [.undef, .undef]) | _ => fun _ => none
def sh_z15z_L4 : SSt := mkSh 26 0 [(0, .sl 3), (1, .sl 3), (12, .int .i64), (13, .int .i64)] []
def LP_z15z_L4 (g : Nat) (n : Nat) : LPT A := fun ps => match ps with | [.d (.sl 3 p1), .d (.sl 3 p2), .d (.int .i64 p3), .d (.int .i64 p4)] => fun K => z15z_L4 g n p1 p2 p3 p4 (fun z0 => K .ret (mkSt 26 0 [(4, .d (.bool z0))] [])) (K (.exit 0) (mkSt 26 0 [] [])) | _ => fun _ => none
noncomputable def code_22 : Code := (Tryz.f22.body).getD .skip
noncomputable def E_z15z (g : Nat) : Env A := mkE [] [] [(4, ⟨[0, 1, 12, 13], [], [], [], [], [], []⟩)] [(4, ⟨[4], [], [], [], [], [], []⟩)] [(4, pieceOf sh_z15z_L4 (LP_z15z_L4 g g))] [] [] [] [] []
theorem ct_z15z [Fuel] : NatTab (E_z15z NN).C := ct_of (P := Tryz.prog) (T := T) .nil (by kernel_rfl)
noncomputable def cb_z15z_L4 : Code := sub [1, 1, 0, 1, 0, 0] code_22
theorem s_z15z_L4 (g : Nat) (n : Nat) : StepOk (E_z15z g) g cb_z15z_L4 sh_z15z_L4 (LP_z15z_L4 g) n := by intro ps; unfold LP_z15z_L4; split; exact .inr fun R K => (by kernel_rfl); exact .inl fun R K => rfl
theorem lf_z15z_L4 [Fuel] : LoopFine (E_z15z NN) NN cb_z15z_L4 := fine_loop sh_z15z_L4 (LP_z15z_L4 NN) (by kernel_rfl) ct_z15z (cuts0 (fun _ => rfl) (by kernel_rfl)) (fun ps R K => by unfold LP_z15z_L4; split <;> (try unfold z15z_L4) <;> rfl) (s_z15z_L4 NN)
theorem sm_z15z (g : Nat) : Same (SS_z15z (@z15z_ g)) (abody (E_z15z g) Tryz.f22 code_22 0 [] [.asis] g) := by intro args; unfold SS_z15z; split; exact .inr fun R k => (by kernel_rfl); exact .inl fun R k => rfl
theorem ok_z15z [Fuel] : Ok 22 (SS_z15z (@z15z _)) := okF_of std .nil ⟨rfl, rfl, by kernel_rfl, rfl, rfl, rfl⟩ (sm_z15z NN) (cutsL (fun _ => rfl) (.cons lf_z15z_L4 .nil) (by kernel_rfl)) Tryz.func22 (by kernel_rfl) (by kernel_rfl)
abbrev T_net_Write : Type 1 := List G_Deed → G_Deed → {R : Type} → (List G_Deed → Int → Option R) → Option R
structure C_net_Write where
 N : Nat
 z33z : T_z33z
 z7z : T_z7z
 z24z : T_z24z
 net_formed : T_net_formed
def net_Write_L7 (g : C_net_Write) : Nat → List G_Deed → List G_Deed → Int → Int → G_Deed → {R : Type} → (List G_Deed → G_Deed → Option R) → Option R
 | 0, _, _, _, _, _, _, _ => none
 | n + 1, v4, v5, v6, v7, v8, _, e0 => (bif (decide (v7 < v6)) then (get_ v5 v7 fun x10 => (bif (x10.f_Site == v8.f_Site) then net_Write_L7 g n v4 v5 v6 (w64 (v7 + 1)) (⟨v8.f_Site, (if x10.f_No > v8.f_No then x10.f_No else v8.f_No), v8.f_At, v8.f_Kind, v8.f_Contact, v8.f_Band, v8.f_Of, v8.f_Other⟩ : G_Deed) e0 else net_Write_L7 g n v4 v5 v6 (w64 (v7 + 1)) v8 e0)) else e0 v4 v8)
def net_Write_ (g : C_net_Write) (a1 : List G_Deed) (a2 : G_Deed) {R : Type} (k0 : List G_Deed → Int → Option R) : Option R :=
 (g.z7z a1 (fun r3 => (bif (r3 != 0) then k0 [] r3 else (bif (a2.f_No != 0) then k0 [] 3 else (net_Write_L7 g g.N a1 a1 (a1.length : Int) 0 a2 (fun e11 e12 => (g.net_formed (⟨e12.f_Site, (w64 (e12.f_No + 1)), e12.f_At, e12.f_Kind, e12.f_Contact, e12.f_Band, e12.f_Of, e12.f_Other⟩ : G_Deed) (fun r13 => (bif (r13 != 0) then k0 [] r13 else (bif (decide ((e11.length : Int) > 0)) then (get_ e11 (w64 ((e11.length : Int) - 1)) fun x14 => (g.z24z x14 (⟨e12.f_Site, (w64 (e12.f_No + 1)), e12.f_At, e12.f_Kind, e12.f_Contact, e12.f_Band, e12.f_Of, e12.f_Other⟩ : G_Deed) (fun r15 => (bif (decide (r15 ≥ 0)) then k0 [] 7 else (bif (decide ((e11.length : Int) ≥ 2000)) then k0 [] 2 else (g.z33z e11 (fun r16 => (bif (decide ((r16.length + [(⟨e12.f_Site, (w64 (e12.f_No + 1)), e12.f_At, e12.f_Kind, e12.f_Contact, e12.f_Band, e12.f_Of, e12.f_Other⟩ : G_Deed)].length) * 176 ≤ roomBytes')) then k0 (r16 ++ [(⟨e12.f_Site, (w64 (e12.f_No + 1)), e12.f_At, e12.f_Kind, e12.f_Contact, e12.f_Band, e12.f_Of, e12.f_Other⟩ : G_Deed)]) 0 else none)))))))) else (bif (decide ((e11.length : Int) ≥ 2000)) then k0 [] 2 else (g.z33z e11 (fun r17 => (bif (decide ((r17.length + [(⟨e12.f_Site, (w64 (e12.f_No + 1)), e12.f_At, e12.f_Kind, e12.f_Contact, e12.f_Band, e12.f_Of, e12.f_Other⟩ : G_Deed)].length) * 176 ≤ roomBytes')) then k0 (r17 ++ [(⟨e12.f_Site, (w64 (e12.f_No + 1)), e12.f_At, e12.f_Kind, e12.f_Contact, e12.f_Band, e12.f_Of, e12.f_Other⟩ : G_Deed)]) 0 else none))))))))))))))
noncomputable def I_net_Write [Fuel] : C_net_Write := ⟨NN, @z33z _, @z7z _, @z24z _, @net_formed _⟩
noncomputable def net_Write [Fuel] : T_net_Write := @net_Write_ I_net_Write
def SS_net_Write (g : T_net_Write) : Spec A := fun args => match args with | [.d (.sl 35 a1), .agg [.d (.str a2), .d (.int .i64 a3), .d (.int .i64 a4), .d (.int .i64 a5), .d (.int .i64 a6), .d (.int .i64 a7), .d (.str a8), .d (.str a9), .d (.int .i64 a10), .d (.int .i64 a11), .d (.str a12), .d (.str a13), .d (.str a14), .d (.str a15), .d (.int .i64 a16)]] => fun k => g a1 ⟨a2, a3, a4, a5, ⟨a6, a7, a8, a9, a10, a11, a12, a13⟩, a14, a15, a16⟩ (fun z0 z1 => k (.tup [.arr 35 z0, .d (.int .i64 z1)]) [.undef, .undef]) | _ => fun _ => none
def sh_net_Write_L7 : SSt := mkSh 68 5 [(0, .sl 35), (3, .ptr 0 0), (19, .sl 35), (20, .int .i64), (21, .int .i64)] [(0, .box [.str, .int .i64, .int .i64, .int .i64, .int .i64, .int .i64, .str, .str, .int .i64, .int .i64, .str, .str, .str, .str, .int .i64])]
def LP_net_Write_L7 (g : C_net_Write) (n : Nat) : LPT A := fun ps => match ps with | [.d (.sl 35 p1), .d (.sl 35 p2), .d (.int .i64 p3), .d (.int .i64 p4), .d (.str p5), .d (.int .i64 p6), .d (.int .i64 p7), .d (.int .i64 p8), .d (.int .i64 p9), .d (.int .i64 p10), .d (.str p11), .d (.str p12), .d (.int .i64 p13), .d (.int .i64 p14), .d (.str p15), .d (.str p16), .d (.str p17), .d (.str p18), .d (.int .i64 p19)] => fun K => net_Write_L7 g n p1 p2 p3 p4 ⟨p5, p6, p7, p8, ⟨p9, p10, p11, p12, p13, p14, p15, p16⟩, p17, p18, p19⟩ (fun z0 z1 => K (.exit 0) (mkSt 68 5 [(0, .d (.sl 35 z0)), (3, .ptr 0 0)] [(0, some (.box [.d (.str z1.f_Site), .d (.int .i64 z1.f_No), .d (.int .i64 z1.f_At), .d (.int .i64 z1.f_Kind), .d (.int .i64 z1.f_Contact.f_At), .d (.int .i64 z1.f_Contact.f_Mode), .d (.str z1.f_Contact.f_Band), .d (.str z1.f_Contact.f_Call), .d (.int .i64 z1.f_Contact.f_Sent), .d (.int .i64 z1.f_Contact.f_Heard), .d (.str z1.f_Contact.f_Gave), .d (.str z1.f_Contact.f_Got), .d (.str z1.f_Band), .d (.str z1.f_Of), .d (.int .i64 z1.f_Other)]))])) | _ => fun _ => none
noncomputable def code_23 : Code := (Tryz.f23.body).getD .skip
noncomputable def E_net_Write (g : C_net_Write) : Env A := mkE [(11, SS_z33z g.z33z), (20, SS_z7z g.z7z), (63, SS_z24z g.z24z), (70, SS_net_formed g.net_formed)] [(3, [0]), (8, [1]), (64, [3]), (66, [2]), (67, [4])] [(7, ⟨[0, 3, 19, 20, 21], [], [0], [], [], [], []⟩)] [(7, ⟨[0, 3], [], [0], [], [], [], []⟩)] [(7, pieceOf sh_net_Write_L7 (LP_net_Write_L7 g g.N))] [] [] [] [] []
theorem ct_net_Write [Fuel] : NatTab (E_net_Write I_net_Write).C := ct_of (P := Tryz.prog) (T := T) (.cons ok_z33z (.cons ok_z7z (.cons ok_z24z (.cons ok_net_formed .nil)))) (by kernel_rfl)
noncomputable def cb_net_Write_L7 : Code := sub [1, 1, 1, 0, 1, 0, 0] code_23
theorem s_net_Write_L7 (g : C_net_Write) (n : Nat) : StepOk (E_net_Write g) g.N cb_net_Write_L7 sh_net_Write_L7 (LP_net_Write_L7 g) n := by intro ps; unfold LP_net_Write_L7; split; exact .inr fun R K => (by kernel_rfl); exact .inl fun R K => rfl
theorem lf_net_Write_L7 [Fuel] : LoopFine (E_net_Write I_net_Write) NN cb_net_Write_L7 := fine_loop sh_net_Write_L7 (LP_net_Write_L7 I_net_Write) (by kernel_rfl) ct_net_Write (cuts0 (fun _ => rfl) (by kernel_rfl)) (fun ps R K => by unfold LP_net_Write_L7; split <;> (try unfold net_Write_L7) <;> rfl) (s_net_Write_L7 I_net_Write)
theorem sm_net_Write (g : C_net_Write) : Same (SS_net_Write (@net_Write_ g)) (abody (E_net_Write g) Tryz.f23 code_23 5 [] [.arr 35, .asis] g.N) := by intro args; unfold SS_net_Write; split; exact .inr fun R k => (by kernel_rfl); exact .inl fun R k => rfl
theorem ok_net_Write [Fuel] : Ok 23 (SS_net_Write (@net_Write _)) := okF_of std (.cons ok_z33z (.cons ok_z7z (.cons ok_z24z (.cons ok_net_formed .nil)))) ⟨rfl, rfl, by kernel_rfl, rfl, rfl, rfl⟩ (sm_net_Write I_net_Write) (cutsL (fun _ => rfl) (.cons lf_net_Write_L7 .nil) (by kernel_rfl)) Tryz.func23 (by kernel_rfl) (by kernel_rfl)
abbrev T_z35z : Type 1 := List G_Deed → G_Deed → {R : Type} → (List G_Deed → Int → Option R) → Option R
structure C_z35z where
 N : Nat
 z33z : T_z33z
 z2z : T_z2z
 z46z : T_z46z
def z35z_L4 (g : C_z35z) : Nat → List G_Deed → List G_Deed → Int → Int → G_Deed → {R : Type} → (List G_Deed → G_Deed → Option R) → Option R
 | 0, _, _, _, _, _, _, _ => none
 | n + 1, v3, v4, v5, v6, v7, _, e0 => (bif (decide (v6 < v5)) then (get_ v4 v6 fun x9 => (bif (x9.f_Site == v7.f_Site) then z35z_L4 g n v3 v4 v5 (w64 (v6 + 1)) (⟨v7.f_Site, (if x9.f_No > v7.f_No then x9.f_No else v7.f_No), v7.f_At, v7.f_Kind, v7.f_Contact, v7.f_Band, v7.f_Of, v7.f_Other⟩ : G_Deed) e0 else z35z_L4 g n v3 v4 v5 (w64 (v6 + 1)) v7 e0)) else e0 v3 v7)
def z35z_ (g : C_z35z) (a1 : List G_Deed) (a2 : G_Deed) {R : Type} (k0 : List G_Deed → Int → Option R) : Option R :=
 (bif (a2.f_No != 0) then k0 [] 3 else (z35z_L4 g g.N a1 a1 (a1.length : Int) 0 a2 (fun e10 e11 => (g.z46z (⟨e11.f_Site, (w64 (e11.f_No + 1)), e11.f_At, e11.f_Kind, e11.f_Contact, e11.f_Band, e11.f_Of, e11.f_Other⟩ : G_Deed) (fun r12 => (bif (r12 != 0) then k0 [] r12 else (bif (decide ((e10.length : Int) > 0)) then (get_ e10 (w64 ((e10.length : Int) - 1)) fun x13 => (g.z2z x13 (⟨e11.f_Site, (w64 (e11.f_No + 1)), e11.f_At, e11.f_Kind, e11.f_Contact, e11.f_Band, e11.f_Of, e11.f_Other⟩ : G_Deed) (fun r14 => (bif (decide (r14 ≥ 0)) then k0 [] 7 else (bif ((e10.length : Int) == 2000) then k0 [] 2 else (g.z33z e10 (fun r15 => (bif (decide ((r15.length + [(⟨e11.f_Site, (w64 (e11.f_No + 1)), e11.f_At, e11.f_Kind, e11.f_Contact, e11.f_Band, e11.f_Of, e11.f_Other⟩ : G_Deed)].length) * 176 ≤ roomBytes')) then k0 (r15 ++ [(⟨e11.f_Site, (w64 (e11.f_No + 1)), e11.f_At, e11.f_Kind, e11.f_Contact, e11.f_Band, e11.f_Of, e11.f_Other⟩ : G_Deed)]) 0 else none)))))))) else (bif ((e10.length : Int) == 2000) then k0 [] 2 else (g.z33z e10 (fun r16 => (bif (decide ((r16.length + [(⟨e11.f_Site, (w64 (e11.f_No + 1)), e11.f_At, e11.f_Kind, e11.f_Contact, e11.f_Band, e11.f_Of, e11.f_Other⟩ : G_Deed)].length) * 176 ≤ roomBytes')) then k0 (r16 ++ [(⟨e11.f_Site, (w64 (e11.f_No + 1)), e11.f_At, e11.f_Kind, e11.f_Contact, e11.f_Band, e11.f_Of, e11.f_Other⟩ : G_Deed)]) 0 else none)))))))))))
noncomputable def I_z35z [Fuel] : C_z35z := ⟨NN, @z33z _, @z2z _, @z46z _⟩
noncomputable def z35z [Fuel] : T_z35z := @z35z_ I_z35z
def SS_z35z (g : T_z35z) : Spec A := fun args => match args with | [.d (.sl 35 a1), .agg [.d (.str a2), .d (.int .i64 a3), .d (.int .i64 a4), .d (.int .i64 a5), .d (.int .i64 a6), .d (.int .i64 a7), .d (.str a8), .d (.str a9), .d (.int .i64 a10), .d (.int .i64 a11), .d (.str a12), .d (.str a13), .d (.str a14), .d (.str a15), .d (.int .i64 a16)]] => fun k => g a1 ⟨a2, a3, a4, a5, ⟨a6, a7, a8, a9, a10, a11, a12, a13⟩, a14, a15, a16⟩ (fun z0 z1 => k (.tup [.arr 35 z0, .d (.int .i64 z1)]) [.undef, .undef]) | _ => fun _ => none
def sh_z35z_L4 : SSt := mkSh 62 5 [(0, .sl 35), (3, .ptr 0 0), (13, .sl 35), (14, .int .i64), (15, .int .i64)] [(0, .box [.str, .int .i64, .int .i64, .int .i64, .int .i64, .int .i64, .str, .str, .int .i64, .int .i64, .str, .str, .str, .str, .int .i64])]
def LP_z35z_L4 (g : C_z35z) (n : Nat) : LPT A := fun ps => match ps with | [.d (.sl 35 p1), .d (.sl 35 p2), .d (.int .i64 p3), .d (.int .i64 p4), .d (.str p5), .d (.int .i64 p6), .d (.int .i64 p7), .d (.int .i64 p8), .d (.int .i64 p9), .d (.int .i64 p10), .d (.str p11), .d (.str p12), .d (.int .i64 p13), .d (.int .i64 p14), .d (.str p15), .d (.str p16), .d (.str p17), .d (.str p18), .d (.int .i64 p19)] => fun K => z35z_L4 g n p1 p2 p3 p4 ⟨p5, p6, p7, p8, ⟨p9, p10, p11, p12, p13, p14, p15, p16⟩, p17, p18, p19⟩ (fun z0 z1 => K (.exit 0) (mkSt 62 5 [(0, .d (.sl 35 z0)), (3, .ptr 0 0)] [(0, some (.box [.d (.str z1.f_Site), .d (.int .i64 z1.f_No), .d (.int .i64 z1.f_At), .d (.int .i64 z1.f_Kind), .d (.int .i64 z1.f_Contact.f_At), .d (.int .i64 z1.f_Contact.f_Mode), .d (.str z1.f_Contact.f_Band), .d (.str z1.f_Contact.f_Call), .d (.int .i64 z1.f_Contact.f_Sent), .d (.int .i64 z1.f_Contact.f_Heard), .d (.str z1.f_Contact.f_Gave), .d (.str z1.f_Contact.f_Got), .d (.str z1.f_Band), .d (.str z1.f_Of), .d (.int .i64 z1.f_Other)]))])) | _ => fun _ => none
noncomputable def code_24 : Code := (Tryz.f24.body).getD .skip
noncomputable def E_z35z (g : C_z35z) : Env A := mkE [(11, SS_z33z g.z33z), (55, SS_z2z g.z2z), (57, SS_z46z g.z46z)] [(3, [0]), (7, [1]), (58, [3]), (60, [2]), (61, [4])] [(4, ⟨[0, 3, 13, 14, 15], [], [0], [], [], [], []⟩)] [(4, ⟨[0, 3], [], [0], [], [], [], []⟩)] [(4, pieceOf sh_z35z_L4 (LP_z35z_L4 g g.N))] [] [] [] [] []
theorem ct_z35z [Fuel] : NatTab (E_z35z I_z35z).C := ct_of (P := Tryz.prog) (T := T) (.cons ok_z33z (.cons ok_z2z (.cons ok_z46z .nil))) (by kernel_rfl)
noncomputable def cb_z35z_L4 : Code := sub [1, 1, 0, 1, 0, 0] code_24
theorem s_z35z_L4 (g : C_z35z) (n : Nat) : StepOk (E_z35z g) g.N cb_z35z_L4 sh_z35z_L4 (LP_z35z_L4 g) n := by intro ps; unfold LP_z35z_L4; split; exact .inr fun R K => (by kernel_rfl); exact .inl fun R K => rfl
theorem lf_z35z_L4 [Fuel] : LoopFine (E_z35z I_z35z) NN cb_z35z_L4 := fine_loop sh_z35z_L4 (LP_z35z_L4 I_z35z) (by kernel_rfl) ct_z35z (cuts0 (fun _ => rfl) (by kernel_rfl)) (fun ps R K => by unfold LP_z35z_L4; split <;> (try unfold z35z_L4) <;> rfl) (s_z35z_L4 I_z35z)
theorem sm_z35z (g : C_z35z) : Same (SS_z35z (@z35z_ g)) (abody (E_z35z g) Tryz.f24 code_24 5 [] [.arr 35, .asis] g.N) := by intro args; unfold SS_z35z; split; exact .inr fun R k => (by kernel_rfl); exact .inl fun R k => rfl
theorem ok_z35z [Fuel] : Ok 24 (SS_z35z (@z35z _)) := okF_of std (.cons ok_z33z (.cons ok_z2z (.cons ok_z46z .nil))) ⟨rfl, rfl, by kernel_rfl, rfl, rfl, rfl⟩ (sm_z35z I_z35z) (cutsL (fun _ => rfl) (.cons lf_z35z_L4 .nil) (by kernel_rfl)) Tryz.func24 (by kernel_rfl) (by kernel_rfl)
abbrev T_z32z : Type 1 := List G_Deed → {R : Type} → (Bool → Option R) → Option R
def z32z_L4 (g : Nat) : Nat → List G_Deed → Int → Int → {R : Type} → Option R → Option R
 | 0, _, _, _, _, _ => none
 | n + 1, v2, v3, v4, _, e0 => (bif (decide (v4 < v3)) then (get_ v2 v4 fun x6 => none) else e0)
def z32z_ (g : Nat) (a1 : List G_Deed) {R : Type} (k0 : Bool → Option R) : Option R :=
 (bif ((a1.length : Int) != 0) then k0 false else (z32z_L4 g g a1 (a1.length : Int) 0 (k0 true)))
noncomputable def z32z [Fuel] : T_z32z := @z32z_ NN
def SS_z32z (g : T_z32z) : Spec A := fun args => match args with | [.d (.sl 35 a1), .d .nsl] => fun k => g a1 (fun z0 => k (.d (.bool z0)) [.undef, .undef]) | _ => fun _ => none
def sh_z32z_L4 : SSt := mkSh 26 0 [(0, .sl 35), (1, .nsl), (12, .int .i64), (13, .int .i64)] []
def LP_z32z_L4 (g : Nat) (n : Nat) : LPT A := fun ps => match ps with | [.d (.sl 35 p1), .d (.int .i64 p2), .d (.int .i64 p3)] => fun K => z32z_L4 g n p1 p2 p3 (K (.exit 0) (mkSt 26 0 [] [])) | _ => fun _ => none
noncomputable def E_z32z (g : Nat) : Env A := mkE [] [] [(4, ⟨[0, 1, 12, 13], [], [], [], [], [], []⟩)] [(4, ⟨[], [], [], [], [], [], []⟩)] [(4, pieceOf sh_z32z_L4 (LP_z32z_L4 g g))] [] [] [] [] []
theorem ct_z32z [Fuel] : NatTab (E_z32z NN).C := ct_of (P := Tryz.prog) (T := T) .nil (by kernel_rfl)
noncomputable def cb_z32z_L4 : Code := sub [1, 1, 0, 1, 0, 0] code_21
theorem s_z32z_L4 (g : Nat) (n : Nat) : StepOk (E_z32z g) g cb_z32z_L4 sh_z32z_L4 (LP_z32z_L4 g) n := by intro ps; unfold LP_z32z_L4; split; exact .inr fun R K => (by kernel_rfl); exact .inl fun R K => rfl
theorem lf_z32z_L4 [Fuel] : LoopFine (E_z32z NN) NN cb_z32z_L4 := fine_loop sh_z32z_L4 (LP_z32z_L4 NN) (by kernel_rfl) ct_z32z (cuts0 (fun _ => rfl) (by kernel_rfl)) (fun ps R K => by unfold LP_z32z_L4; split <;> (try unfold z32z_L4) <;> rfl) (s_z32z_L4 NN)
theorem sm_z32z (g : Nat) : Same (SS_z32z (@z32z_ g)) (abody (E_z32z g) Tryz.f21 code_21 0 [] [.asis] g) := by intro args; unfold SS_z32z; split; exact .inr fun R k => (by kernel_rfl); exact .inl fun R k => rfl
theorem ok_z32z [Fuel] : Ok 21 (SS_z32z (@z32z _)) := okF_of std .nil ⟨rfl, rfl, by kernel_rfl, rfl, rfl, rfl⟩ (sm_z32z NN) (cutsL (fun _ => rfl) (.cons lf_z32z_L4 .nil) (by kernel_rfl)) Tryz.func21 (by kernel_rfl) (by kernel_rfl)
abbrev T_net_key : Type 1 := G_Contact → {R : Type} → (G_Contact → Option R) → Option R
def net_key_ (g : Nat) (a1 : G_Contact) {R : Type} (k0 : G_Contact → Option R) : Option R :=
 k0 (⟨a1.f_At, a1.f_Mode, a1.f_Band, a1.f_Call, 0, 0, [], []⟩ : G_Contact)
noncomputable def net_key [Fuel] : T_net_key := @net_key_ NN
def SS_net_key (g : T_net_key) : Spec A := fun args => match args with | [.agg [.d (.int .i64 a1), .d (.int .i64 a2), .d (.str a3), .d (.str a4), .d (.int .i64 a5), .d (.int .i64 a6), .d (.str a7), .d (.str a8)]] => fun k => g ⟨a1, a2, a3, a4, a5, a6, a7, a8⟩ (fun z0 => k (.agg [.d (.int .i64 z0.f_At), .d (.int .i64 z0.f_Mode), .d (.str z0.f_Band), .d (.str z0.f_Call), .d (.int .i64 z0.f_Sent), .d (.int .i64 z0.f_Heard), .d (.str z0.f_Gave), .d (.str z0.f_Got)]) [.undef]) | _ => fun _ => none
noncomputable def code_132 : Code := (Tryz.f132.body).getD .skip
noncomputable def E_net_key (g : Nat) : Env A := mkE [] [(1, [0]), (2, [1])] [] [] [] [] [] [] [] []
theorem sm_net_key (g : Nat) : Same (SS_net_key (@net_key_ g)) (abody (E_net_key g) Tryz.f132 code_132 2 [] [.asis] g) := by intro args; unfold SS_net_key; split; exact .inr fun R k => (by kernel_rfl); exact .inl fun R k => rfl
theorem ok_net_key [Fuel] : Ok 132 (SS_net_key (@net_key _)) := okF_of std .nil ⟨rfl, rfl, by kernel_rfl, rfl, rfl, rfl⟩ (sm_net_key NN) (cuts0 (fun _ => rfl) (by kernel_rfl)) Tryz.func132 (by kernel_rfl) (by kernel_rfl)
abbrev T_z40z : Type 1 := G_Contact → G_Contact → {R : Type} → (Int → Option R) → Option R
structure C_z40z where
 N : Nat
 strings_Compare : T_strings_Compare
 z29z : T_z29z
 z31z : T_z31z
def z40z_ (g : C_z40z) (a1 a2 : G_Contact) {R : Type} (k0 : Int → Option R) : Option R :=
 (g.z31z a1.f_At a2.f_At (fun r3 => (g.strings_Compare a1.f_Call a2.f_Call (fun r4 => (g.strings_Compare a1.f_Band a2.f_Band (fun r5 => (g.z31z a1.f_Mode a2.f_Mode (fun r6 => (g.z29z [r3, r4, r5, r6] (fun r7 => k0 r7))))))))))
noncomputable def I_z40z [Fuel] : C_z40z := ⟨NN, @strings_Compare _, @z29z _, @z31z _⟩
noncomputable def z40z [Fuel] : T_z40z := @z40z_ I_z40z
def SS_z40z (g : T_z40z) : Spec A := fun args => match args with | [.agg [.d (.int .i64 a1), .d (.int .i64 a2), .d (.str a3), .d (.str a4), .d (.int .i64 a5), .d (.int .i64 a6), .d (.str a7), .d (.str a8)], .agg [.d (.int .i64 a9), .d (.int .i64 a10), .d (.str a11), .d (.str a12), .d (.int .i64 a13), .d (.int .i64 a14), .d (.str a15), .d (.str a16)]] => fun k => g ⟨a1, a2, a3, a4, a5, a6, a7, a8⟩ ⟨a9, a10, a11, a12, a13, a14, a15, a16⟩ (fun z0 => k (.d (.int .i64 z0)) [.undef, .undef]) | _ => fun _ => none
noncomputable def code_134 : Code := (Tryz.f134.body).getD .skip
noncomputable def E_z40z (g : C_z40z) : Env A := mkE [(108, SS_strings_Compare g.strings_Compare), (112, SS_z29z g.z29z), (113, SS_z31z g.z31z)] [(2, [0]), (3, [1]), (25, [2])] [] [] [] [] [] [] [] []
theorem sm_z40z (g : C_z40z) : Same (SS_z40z (@z40z_ g)) (abody (E_z40z g) Tryz.f134 code_134 3 [] [.asis] g.N) := by intro args; unfold SS_z40z; split; exact .inr fun R k => (by kernel_rfl); exact .inl fun R k => rfl
theorem ok_z40z [Fuel] : Ok 134 (SS_z40z (@z40z _)) := okF_of std (.cons ok_strings_Compare (.cons ok_z29z (.cons ok_z31z .nil))) ⟨rfl, rfl, by kernel_rfl, rfl, rfl, rfl⟩ (sm_z40z I_z40z) (cuts0 (fun _ => rfl) (by kernel_rfl)) Tryz.func134 (by kernel_rfl) (by kernel_rfl)
noncomputable def Ed_z40z (g : C_z40z) : Env A := mkED [(108, SS_strings_Compare g.strings_Compare), (112, SS_z29z g.z29z), (113, SS_z31z g.z31z)] [(2, [0]), (3, [1]), (25, [2])] [] [] [] [] [] [] [] []
theorem smd_z40z (g : C_z40z) : Same (SS_z40z (@z40z_ g)) (abody (Ed_z40z g) Tryz.f134 code_134 3 [] [.asis] g.N) := by intro args; unfold SS_z40z; split; exact .inr fun R k => (by kernel_rfl); exact .inl fun R k => rfl
theorem okd_z40z [Fuel] : OkD 134 (SS_z40z (@z40z _)) := okF_of stdD (.cons okd_strings_Compare (.cons okd_z29z (.cons okd_z31z .nil))) ⟨rfl, rfl, by kernel_rfl, rfl, rfl, rfl⟩ (smd_z40z I_z40z) (cuts0 (fun _ => rfl) (by kernel_rfl)) Tryz.func134 (by kernel_rfl) (by kernel_rfl)
abbrev T_z28z : Type 1 := List G_Contact → {R : Type} → (List G_Contact → Option R) → Option R
noncomputable def z28z [Fuel] : T_z28z := @X_sortf G_Contact (@z40z _)
def SS_z28z (g : T_z28z) : Spec A := fun args => match args with | [.arr 33 a1, .fn 134 []] => fun k => g a1 (fun z => k (.tup []) [.arr 33 z, .fn 134 []]) | _ => fun _ => none
theorem h1_z28z [Fuel] (xs : List (A 33)) (R : Type) (k : IV A → List (IV A) → Option R) : SS_z28z (@z28z _) [.arr 33 xs, .fn 134 []] k = X_sortf (α := A 33) (@z40z _) xs (fun z => k (.tup []) [.arr 33 z, .fn 134 []]) := by kernel_rfl
theorem h2_z28z [Fuel] (args : List (IV A)) (R : Type) (k : IV A → List (IV A) → Option R) (h : ∀ xs : List (A 33), args ≠ [.arr 33 xs, .fn 134 []]) : SS_z28z (@z28z _) args k = none := by unfold SS_z28z; split; exact absurd rfl (h _); rfl
theorem hc_z28z [Fuel] (x y : A 33) (R : Type) (k : Int → Option R) : callOf T (SS_z40z (@z40z _)) 33 x y k = @z40z _ x y R k := by kernel_rfl
theorem hs_z28z (x : G_Contact) : (enc_e33 x).all scal = true := rfl
theorem ok_z28z [Fuel] : Ok 133 (SS_z28z (@z28z _)) := ⟨sortf_sound (tyOk Tryz.prog) (e := 33) Tryz.sortf133 Tryz.isAgg33 Tryz.sizeOf33 (fun x d hd => List.all_eq_true.1 (hs_z28z x) d hd) hc_z28z okd_z40z.fs okd_z40z.en h1_z28z h2_z28z, sortf_na (e := 33) h1_z28z h2_z28z, enters_of (fn := Tryz.f133) Tryz.func133 (by kernel_rfl) (by kernel_rfl)⟩
end Go.Am
