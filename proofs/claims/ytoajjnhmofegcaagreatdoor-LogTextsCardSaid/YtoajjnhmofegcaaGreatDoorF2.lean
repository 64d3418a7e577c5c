/- The functions of the program as Lean functions, each shown to be what the code computes, part 2. No condition: lemmas for the claim. -/
import Derived.Test.YtoajjnhmofegcaaGreatDoorF0
import Derived.Test.YtoajjnhmofegcaaGreatDoorFSh
import Derived.Test.YtoajjnhmofegcaaGreatDoorF1
set_option linter.unusedVariables false
set_option maxRecDepth 100000
namespace Go.Am
open Go Go.Proofs
abbrev T_Stream_Contacts_1 : Type 1 := G_Contact → G_Contact → {R : Type} → (Bool → Option R) → Option R
structure C_Stream_Contacts_1 where
 N : Nat
 Q_ContactOrder : T_Q_ContactOrder
def Stream_Contacts_1_ (g : C_Stream_Contacts_1) (a1 a2 : G_Contact) {R : Type} (k0 : Bool → Option R) : Option R :=
 (g.Q_ContactOrder a1 a2 (fun r3 => k0 (r3 == 0)))
noncomputable def I_Stream_Contacts_1 [Fuel] : C_Stream_Contacts_1 := ⟨NN, @Q_ContactOrder _⟩
noncomputable def Stream_Contacts_1 [Fuel] : T_Stream_Contacts_1 := @Stream_Contacts_1_ I_Stream_Contacts_1
def SS_Stream_Contacts_1 (g : T_Stream_Contacts_1) : Spec A := fun args => match args with | [.agg [.d (.int .i64 a1), .d (.int .i64 a2), .d (.str a3), .d (.str a4), .d (.int .i64 a5), .d (.int .i64 a6), .d (.str a7), .d (.str a8)], .agg [.d (.int .i64 a9), .d (.int .i64 a10), .d (.str a11), .d (.str a12), .d (.int .i64 a13), .d (.int .i64 a14), .d (.str a15), .d (.str a16)]] => fun k => g ⟨a1, a2, a3, a4, a5, a6, a7, a8⟩ ⟨a9, a10, a11, a12, a13, a14, a15, a16⟩ (fun z0 => k (.d (.bool z0)) [.undef, .undef]) | _ => fun _ => none
noncomputable def code_49 : Code := (Tryz.f49.body).getD .skip
noncomputable def E_Stream_Contacts_1 (g : C_Stream_Contacts_1) : Env A := mkE [(47, SS_Q_ContactOrder g.Q_ContactOrder)] [(2, [0]), (3, [1])] [] [] [] [] [] [] [] []
theorem sm_Stream_Contacts_1 (g : C_Stream_Contacts_1) : Same (SS_Stream_Contacts_1 (@Stream_Contacts_1_ g)) (abody (E_Stream_Contacts_1 g) Tryz.f49 code_49 2 [] [.asis] g.N) := by intro args; unfold SS_Stream_Contacts_1; split; exact .inr fun R k => (by kernel_rfl); exact .inl fun R k => rfl
theorem ok_Stream_Contacts_1 [Fuel] : Ok 49 (SS_Stream_Contacts_1 (@Stream_Contacts_1 _)) := okF_of std (.cons ok_Q_ContactOrder .nil) ⟨rfl, rfl, by kernel_rfl, rfl, rfl, rfl⟩ (sm_Stream_Contacts_1 I_Stream_Contacts_1) (cuts0 (fun _ => rfl) (by kernel_rfl)) Tryz.func49 (by kernel_rfl) (by kernel_rfl)
abbrev T_slices_CompactFunc__Contact_Stream_Contacts_1 : Type 1 := List G_Contact → {R : Type} → (List G_Contact → Option R) → Option R
structure C_slices_CompactFunc__Contact_Stream_Contacts_1 where
 N : Nat
 Stream_Contacts_1 : T_Stream_Contacts_1
def slices_CompactFunc__Contact_Stream_Contacts_1_L9 (g : C_slices_CompactFunc__Contact_Stream_Contacts_1) : Nat → Int → Int → Int → Int → List G_Contact → {R : Type} → (Int → List G_Contact → Option R) → Option R
 | 0, _, _, _, _, _, _, _ => none
 | n + 1, v27, v28, v29, v30, v31, _, e0 => (bif (decide (v30 < ((v29 - v28).toNat : Int))) then (bif (decide (0 ≤ v30) && (decide (v30 < v29 - v28) && decide (v28 + v30 < (v31.length : Int)))) then (at_ v31 (v28 + v30) fun x37 => (bif (decide (0 ≤ (w64 (v30 - 1))) && (decide ((w64 (v30 - 1)) < v29 - v28) && decide (v28 + (w64 (v30 - 1)) < (v31.length : Int)))) then (at_ v31 (v28 + (w64 (v30 - 1))) fun x38 => (g.Stream_Contacts_1 x37 x38 (fun r39 => (bif (!r39) then (bif (decide (0 ≤ v30) && (decide (v30 < v29 - v28) && decide (v28 + v30 < (v31.length : Int)))) then (at_ v31 (v28 + v30) fun x40 => (inr v31 v27 (at_ v31 v27 fun x41 => slices_CompactFunc__Contact_Stream_Contacts_1_L9 g n (w64 (v27 + 1)) v28 v29 (w64 (v30 + 1)) (set_ v31 v27 x40) e0))) else none) else slices_CompactFunc__Contact_Stream_Contacts_1_L9 g n v27 v28 v29 (w64 (v30 + 1)) v31 e0)))) else none)) else none) else e0 v27 v31)
def slices_CompactFunc__Contact_Stream_Contacts_1_L4 (g : C_slices_CompactFunc__Contact_Stream_Contacts_1) : Nat → Int → List G_Contact → {R : Type} → (List G_Contact → Option R) → (List G_Contact → Option R) → Option R
 | 0, _, _, _, _, _ => none
 | n + 1, v2, v3, _, e0, e1 => (bif (decide (v2 < (v3.length : Int))) then (inr v3 v2 (at_ v3 v2 fun x24 => (inr v3 (w64 (v2 - 1)) (at_ v3 (w64 (v2 - 1)) fun x25 => (g.Stream_Contacts_1 x24 x25 (fun r26 => (bif r26 then (bif (decide (0 < v3.length) && (decide (0 ≤ v2) && decide (v2 ≤ (v3.length : Int)))) then (slices_CompactFunc__Contact_Stream_Contacts_1_L9 g g.N v2 v2 (v3.length : Int) 1 v3 (fun e42 e43 => (bif (decide (0 < e43.length) && (decide (0 ≤ e42) && decide (e42 ≤ (e43.length : Int)))) then (bif (decide (0 ≤ e42) && (decide (e42 ≤ (e43.length : Int)) && decide (((e43.length : Int)).toNat ≤ e43.length))) then (bif (decide (0 ≤ e42) && decide (e42 ≤ ((e43.take (e42).toNat ++ (List.replicate ((e43.length : Int) - e42).toNat (⟨0, 0, [], [], 0, 0, [], []⟩ : G_Contact) ++ e43.drop ((e43.length : Int)).toNat)).length : Int))) then e0 ((e43.take (e42).toNat ++ (List.replicate ((e43.length : Int) - e42).toNat (⟨0, 0, [], [], 0, 0, [], []⟩ : G_Contact) ++ e43.drop ((e43.length : Int)).toNat)).take (e42 : Int).toNat) else none) else none) else none))) else none) else slices_CompactFunc__Contact_Stream_Contacts_1_L4 g n (w64 (v2 + 1)) v3 e0 e1))))))) else e1 v3)
def slices_CompactFunc__Contact_Stream_Contacts_1_ (g : C_slices_CompactFunc__Contact_Stream_Contacts_1) (a1 : List G_Contact) {R : Type} (k0 : List G_Contact → Option R) : Option R :=
 (bif (decide ((a1.length : Int) < 2)) then k0 a1 else (slices_CompactFunc__Contact_Stream_Contacts_1_L4 g g.N 1 a1 (fun e44 => k0 e44) (fun e45 => k0 e45)))
noncomputable def I_slices_CompactFunc__Contact_Stream_Contacts_1 [Fuel] : C_slices_CompactFunc__Contact_Stream_Contacts_1 := ⟨NN, @Stream_Contacts_1 _⟩
noncomputable def slices_CompactFunc__Contact_Stream_Contacts_1 [Fuel] : T_slices_CompactFunc__Contact_Stream_Contacts_1 := @slices_CompactFunc__Contact_Stream_Contacts_1_ I_slices_CompactFunc__Contact_Stream_Contacts_1
def SS_slices_CompactFunc__Contact_Stream_Contacts_1 (g : T_slices_CompactFunc__Contact_Stream_Contacts_1) : Spec A := fun args => match args with | [.arr 39 a1, .fn 49 []] => fun k => g a1 (fun z0 => k (.arr 39 z0) [.undef, .fn 49 []]) | _ => fun _ => none
def sh_slices_CompactFunc__Contact_Stream_Contacts_1_L9 : SSt := mkSh 66 6 [(0, .own 39 0), (1, .fn 49 []), (5, .int .i64), (6, .vw 39 0), (7, .int .i64)] [(0, .row 39)]
def LP_slices_CompactFunc__Contact_Stream_Contacts_1_L9 (g : C_slices_CompactFunc__Contact_Stream_Contacts_1) (n : Nat) : LPT A := fun ps => match ps with | [.d (.int .i64 p1), .z p2, .z p3, .d (.int .i64 p4), .d (.sl 39 p5)] => fun K => slices_CompactFunc__Contact_Stream_Contacts_1_L9 g n p1 p2 p3 p4 p5 (fun z0 z1 => K (.exit 2) (mkSt 66 6 [(0, .own 39 0), (1, .fn 49 []), (5, .d (.int .i64 z0))] [(0, some (.row 39 z1))])) | _ => fun _ => none
def sh_slices_CompactFunc__Contact_Stream_Contacts_1_L4 : SSt := mkSh 66 6 [(0, .own 39 0), (1, .fn 49 []), (5, .int .i64)] [(0, .row 39)]
def LP_slices_CompactFunc__Contact_Stream_Contacts_1_L4 (g : C_slices_CompactFunc__Contact_Stream_Contacts_1) (n : Nat) : LPT A := fun ps => match ps with | [.d (.int .i64 p1), .d (.sl 39 p2)] => fun K => slices_CompactFunc__Contact_Stream_Contacts_1_L4 g n p1 p2 (fun z0 => K .ret (mkSt 66 6 [(0, .own 39 0), (1, .fn 49 []), (4, .own 39 5)] [(5, some (.row 39 z0))])) (fun z0 => K (.exit 0) (mkSt 66 6 [(0, .own 39 0), (1, .fn 49 [])] [(0, some (.row 39 z0))])) | _ => fun _ => none
noncomputable def code_48 : Code := (Tryz.f48.body).getD .skip
noncomputable def E_slices_CompactFunc__Contact_Stream_Contacts_1 (g : C_slices_CompactFunc__Contact_Stream_Contacts_1) : Env A := mkE [(49, SS_Stream_Contacts_1 g.Stream_Contacts_1)] [(31, [1, 2]), (61, [3, 4]), (64, [5])] [(9, ⟨[0, 1, 5, 6, 7], [], [0], [], [], [], []⟩), (4, ⟨[0, 1, 5], [], [0], [], [], [], []⟩)] [(9, ⟨[0, 1, 5], [], [0], [], [], [], []⟩), (4, ⟨[0, 1, 4], [], [0, 5], [], [], [], []⟩)] [(9, pieceOf sh_slices_CompactFunc__Contact_Stream_Contacts_1_L9 (LP_slices_CompactFunc__Contact_Stream_Contacts_1_L9 g g.N)), (4, pieceOf sh_slices_CompactFunc__Contact_Stream_Contacts_1_L4 (LP_slices_CompactFunc__Contact_Stream_Contacts_1_L4 g g.N))] [] [] [] [] [1]
theorem ct_slices_CompactFunc__Contact_Stream_Contacts_1 [Fuel] : NatTab (E_slices_CompactFunc__Contact_Stream_Contacts_1 I_slices_CompactFunc__Contact_Stream_Contacts_1).C := ct_of (P := Tryz.prog) (T := T) (.cons ok_Stream_Contacts_1 .nil) (by kernel_rfl)
noncomputable def cb_slices_CompactFunc__Contact_Stream_Contacts_1_L9 : Code := sub [1, 1, 0, 1, 0, 0, 1, 0, 0, 1, 0, 1, 0, 1, 0, 0] code_48
theorem s_slices_CompactFunc__Contact_Stream_Contacts_1_L9 (g : C_slices_CompactFunc__Contact_Stream_Contacts_1) (n : Nat) : StepOk (E_slices_CompactFunc__Contact_Stream_Contacts_1 g) g.N cb_slices_CompactFunc__Contact_Stream_Contacts_1_L9 sh_slices_CompactFunc__Contact_Stream_Contacts_1_L9 (LP_slices_CompactFunc__Contact_Stream_Contacts_1_L9 g) n := by intro ps; unfold LP_slices_CompactFunc__Contact_Stream_Contacts_1_L9; split; exact .inr fun R K => (by kernel_rfl); exact .inl fun R K => rfl
theorem lf_slices_CompactFunc__Contact_Stream_Contacts_1_L9 [Fuel] : LoopFine (E_slices_CompactFunc__Contact_Stream_Contacts_1 I_slices_CompactFunc__Contact_Stream_Contacts_1) NN cb_slices_CompactFunc__Contact_Stream_Contacts_1_L9 := fine_loop sh_slices_CompactFunc__Contact_Stream_Contacts_1_L9 (LP_slices_CompactFunc__Contact_Stream_Contacts_1_L9 I_slices_CompactFunc__Contact_Stream_Contacts_1) (by kernel_rfl) ct_slices_CompactFunc__Contact_Stream_Contacts_1 (cuts0 (fun _ => rfl) (by kernel_rfl)) (fun ps R K => by unfold LP_slices_CompactFunc__Contact_Stream_Contacts_1_L9; split <;> (try unfold slices_CompactFunc__Contact_Stream_Contacts_1_L9) <;> rfl) (s_slices_CompactFunc__Contact_Stream_Contacts_1_L9 I_slices_CompactFunc__Contact_Stream_Contacts_1)
noncomputable def cb_slices_CompactFunc__Contact_Stream_Contacts_1_L4 : Code := sub [1, 1, 0, 1, 0, 0] code_48
theorem s_slices_CompactFunc__Contact_Stream_Contacts_1_L4 (g : C_slices_CompactFunc__Contact_Stream_Contacts_1) (n : Nat) : StepOk (E_slices_CompactFunc__Contact_Stream_Contacts_1 g) g.N cb_slices_CompactFunc__Contact_Stream_Contacts_1_L4 sh_slices_CompactFunc__Contact_Stream_Contacts_1_L4 (LP_slices_CompactFunc__Contact_Stream_Contacts_1_L4 g) n := by intro ps; unfold LP_slices_CompactFunc__Contact_Stream_Contacts_1_L4; split; exact .inr fun R K => (by kernel_rfl); exact .inl fun R K => rfl
theorem lf_slices_CompactFunc__Contact_Stream_Contacts_1_L4 [Fuel] : LoopFine (E_slices_CompactFunc__Contact_Stream_Contacts_1 I_slices_CompactFunc__Contact_Stream_Contacts_1) NN cb_slices_CompactFunc__Contact_Stream_Contacts_1_L4 := fine_loop sh_slices_CompactFunc__Contact_Stream_Contacts_1_L4 (LP_slices_CompactFunc__Contact_Stream_Contacts_1_L4 I_slices_CompactFunc__Contact_Stream_Contacts_1) (by kernel_rfl) ct_slices_CompactFunc__Contact_Stream_Contacts_1 (cutsL (fun _ => rfl) (.cons lf_slices_CompactFunc__Contact_Stream_Contacts_1_L9 .nil) (by kernel_rfl)) (fun ps R K => by unfold LP_slices_CompactFunc__Contact_Stream_Contacts_1_L4; split <;> (try unfold slices_CompactFunc__Contact_Stream_Contacts_1_L4) <;> rfl) (s_slices_CompactFunc__Contact_Stream_Contacts_1_L4 I_slices_CompactFunc__Contact_Stream_Contacts_1)
theorem sm_slices_CompactFunc__Contact_Stream_Contacts_1 (g : C_slices_CompactFunc__Contact_Stream_Contacts_1) : Same (SS_slices_CompactFunc__Contact_Stream_Contacts_1 (@slices_CompactFunc__Contact_Stream_Contacts_1_ g)) (abody (E_slices_CompactFunc__Contact_Stream_Contacts_1 g) Tryz.f48 code_48 6 [0] [.arr 39] g.N) := by intro args; unfold SS_slices_CompactFunc__Contact_Stream_Contacts_1; split; exact .inr fun R k => (by kernel_rfl); exact .inl fun R k => rfl
theorem ok_slices_CompactFunc__Contact_Stream_Contacts_1 [Fuel] : Ok 48 (SS_slices_CompactFunc__Contact_Stream_Contacts_1 (@slices_CompactFunc__Contact_Stream_Contacts_1 _)) := okF_of std (.cons ok_Stream_Contacts_1 .nil) ⟨rfl, rfl, by kernel_rfl, rfl, rfl, rfl⟩ (sm_slices_CompactFunc__Contact_Stream_Contacts_1 I_slices_CompactFunc__Contact_Stream_Contacts_1) (cutsL (fun _ => rfl) (.cons lf_slices_CompactFunc__Contact_Stream_Contacts_1_L9 (.cons lf_slices_CompactFunc__Contact_Stream_Contacts_1_L4 .nil)) (by kernel_rfl)) Tryz.func48 (by kernel_rfl) (by kernel_rfl)
abbrev T_Stream_Contacts : Type 1 := G_Stream → Int → {R : Type} → (List G_Contact → G_Stream → Option R) → Option R
structure C_Stream_Contacts where
 N : Nat
 Stream_Pick : T_Stream_Pick
 Stream_SomeContact : T_Stream_SomeContact
 slices_SortStableFunc__Contact_Q_ContactOrder : T_slices_SortStableFunc__Contact_Q_ContactOrder
 slices_CompactFunc__Contact_Stream_Contacts_1 : T_slices_CompactFunc__Contact_Stream_Contacts_1
def Stream_Contacts_L4 (g : C_Stream_Contacts) : Nat → Int → Int → Int → G_Stream → List G_Contact → {R : Type} → (G_Stream → List G_Contact → Option R) → Option R
 | 0, _, _, _, _, _, _, _ => none
 | n + 1, v3, v4, v5, v6, v7, _, e0 => (bif (decide (v5 < v4)) then (g.Stream_Pick v6 [0, 1, 10, 50, 1000, 40000, 1500000] (fun r12 r13 => (g.Stream_SomeContact r13 (w64 (v3 + r12)) (fun r14 r15 => (bif (decide ((v7.length + [r14].length) * 96 ≤ roomBytes')) then Stream_Contacts_L4 g n (w64 (v3 + r12)) v4 (w64 (v5 + 1)) r15 (v7 ++ [r14]) e0 else none))))) else e0 v6 v7)
def Stream_Contacts_ (g : C_Stream_Contacts) (a1 : G_Stream) (a2 : Int) {R : Type} (k0 : List G_Contact → G_Stream → Option R) : Option R :=
 (Stream_Contacts_L4 g g.N 0 a2 0 a1 [] (fun e16 e17 => (g.slices_SortStableFunc__Contact_Q_ContactOrder e17 (fun r18 => (g.slices_CompactFunc__Contact_Stream_Contacts_1 r18 (fun r19 => k0 r19 e16))))))
noncomputable def I_Stream_Contacts [Fuel] : C_Stream_Contacts := ⟨NN, @Stream_Pick _, @Stream_SomeContact _, @slices_SortStableFunc__Contact_Q_ContactOrder _, @slices_CompactFunc__Contact_Stream_Contacts_1 _⟩
noncomputable def Stream_Contacts [Fuel] : T_Stream_Contacts := @Stream_Contacts_ I_Stream_Contacts
def SS_Stream_Contacts (g : T_Stream_Contacts) : Spec A := fun args => match args with | [.box [.d (.sl 3 a1), .d (.int .i64 a2)], .d (.int .i64 a3)] => fun k => g ⟨a1, a2⟩ a3 (fun z0 z1 => k (.arr 39 z0) [.box [.d (.sl 3 z1.f_L), .d (.int .i64 z1.f_at)], .undef]) | _ => fun _ => none
def sh_Stream_Contacts_L4 : SSt := mkSh 26 6 [(0, .ptr 0 0), (5, .own 39 1), (6, .int .i64), (7, .int .i64), (8, .int .i64)] [(0, .box [.sl 3, .int .i64]), (1, .row 39)]
def LP_Stream_Contacts_L4 (g : C_Stream_Contacts) (n : Nat) : LPT A := fun ps => match ps with | [.d (.int .i64 p1), .d (.int .i64 p2), .d (.int .i64 p3), .d (.sl 3 p4), .d (.int .i64 p5), .d (.sl 39 p6)] => fun K => Stream_Contacts_L4 g n p1 p2 p3 ⟨p4, p5⟩ p6 (fun z0 z1 => K (.exit 0) (mkSt 26 6 [(0, .ptr 0 0), (5, .own 39 1)] [(0, some (.box [.d (.sl 3 z0.f_L), .d (.int .i64 z0.f_at)])), (1, some (.row 39 z1))])) | _ => fun _ => none
noncomputable def code_7 : Code := (Tryz.f7.body).getD .skip
noncomputable def E_Stream_Contacts (g : C_Stream_Contacts) : Env A := mkE [(44, SS_Stream_Pick g.Stream_Pick), (45, SS_Stream_SomeContact g.Stream_SomeContact), (46, SS_slices_SortStableFunc__Contact_Q_ContactOrder g.slices_SortStableFunc__Contact_Q_ContactOrder), (48, SS_slices_CompactFunc__Contact_Stream_Contacts_1 g.slices_CompactFunc__Contact_Stream_Contacts_1)] [(12, [2]), (19, [3]), (20, [4]), (25, [5])] [(4, ⟨[0, 5, 6, 7, 8], [(5, 39, 1)], [0], [], [], [], []⟩)] [(4, ⟨[0, 5], [], [0, 1], [], [], [], []⟩)] [(4, pieceOf sh_Stream_Contacts_L4 (LP_Stream_Contacts_L4 g g.N))] [] [] [] [(46, 0), (48, 0)] [0]
theorem ct_Stream_Contacts [Fuel] : NatTab (E_Stream_Contacts I_Stream_Contacts).C := ct_of (P := Tryz.prog) (T := T) (.cons ok_Stream_Pick (.cons ok_Stream_SomeContact (.cons ok_slices_SortStableFunc__Contact_Q_ContactOrder (.cons ok_slices_CompactFunc__Contact_Stream_Contacts_1 .nil)))) (by kernel_rfl)
noncomputable def cb_Stream_Contacts_L4 : Code := sub [1, 1, 1, 0, 1, 0, 0] code_7
theorem s_Stream_Contacts_L4 (g : C_Stream_Contacts) (n : Nat) : StepOk (E_Stream_Contacts g) g.N cb_Stream_Contacts_L4 sh_Stream_Contacts_L4 (LP_Stream_Contacts_L4 g) n := by intro ps; unfold LP_Stream_Contacts_L4; split; exact .inr fun R K => (by kernel_rfl); exact .inl fun R K => rfl
theorem lf_Stream_Contacts_L4 [Fuel] : LoopFine (E_Stream_Contacts I_Stream_Contacts) NN cb_Stream_Contacts_L4 := fine_loop sh_Stream_Contacts_L4 (LP_Stream_Contacts_L4 I_Stream_Contacts) (by kernel_rfl) ct_Stream_Contacts (cuts0 (fun _ => rfl) (by kernel_rfl)) (fun ps R K => by unfold LP_Stream_Contacts_L4; split <;> (try unfold Stream_Contacts_L4) <;> rfl) (s_Stream_Contacts_L4 I_Stream_Contacts)
theorem sm_Stream_Contacts (g : C_Stream_Contacts) : Same (SS_Stream_Contacts (@Stream_Contacts_ g)) (abody (E_Stream_Contacts g) Tryz.f7 code_7 6 [0] [.arr 39] g.N) := by intro args; unfold SS_Stream_Contacts; split; exact .inr fun R k => (by kernel_rfl); exact .inl fun R k => rfl
theorem ok_Stream_Contacts [Fuel] : Ok 7 (SS_Stream_Contacts (@Stream_Contacts _)) := okF_of std (.cons ok_Stream_Pick (.cons ok_Stream_SomeContact (.cons ok_slices_SortStableFunc__Contact_Q_ContactOrder (.cons ok_slices_CompactFunc__Contact_Stream_Contacts_1 .nil)))) ⟨rfl, rfl, by kernel_rfl, rfl, rfl, rfl⟩ (sm_Stream_Contacts I_Stream_Contacts) (cutsL (fun _ => rfl) (.cons lf_Stream_Contacts_L4 .nil) (by kernel_rfl)) Tryz.func7 (by kernel_rfl) (by kernel_rfl)
abbrev T_Q_in : Type 1 := Int → Int → Int → {R : Type} → (Bool → Option R) → Option R
def Q_in_ (g : Nat) (a1 a2 a3 : Int) {R : Type} (k0 : Bool → Option R) : Option R :=
 (bif (decide (a2 ≤ a1)) then k0 (decide (a1 ≤ a3)) else k0 false)
noncomputable def Q_in [Fuel] : T_Q_in := @Q_in_ NN
def SS_Q_in (g : T_Q_in) : Spec A := fun args => match args with | [.d (.int .i64 a1), .d (.int .i64 a2), .d (.int .i64 a3)] => fun k => g a1 a2 a3 (fun z0 => k (.d (.bool z0)) [.undef, .undef, .undef]) | _ => fun _ => none
noncomputable def code_83 : Code := (Tryz.f83.body).getD .skip
noncomputable def E_Q_in (g : Nat) : Env A := mkE [] [] [] [] [] [] [] [] [] []
theorem sm_Q_in (g : Nat) : Same (SS_Q_in (@Q_in_ g)) (abody (E_Q_in g) Tryz.f83 code_83 0 [] [.asis] g) := by intro args; unfold SS_Q_in; split; exact .inr fun R k => (by kernel_rfl); exact .inl fun R k => rfl
theorem ok_Q_in [Fuel] : Ok 83 (SS_Q_in (@Q_in _)) := okF_of std .nil ⟨rfl, rfl, by kernel_rfl, rfl, rfl, rfl⟩ (sm_Q_in NN) (cuts0 (fun _ => rfl) (by kernel_rfl)) Tryz.func83 (by kernel_rfl) (by kernel_rfl)
abbrev T_Q_Moment : Type 1 := Int → {R : Type} → (Bool → Option R) → Option R
structure C_Q_Moment where
 N : Nat
 Q_in : T_Q_in
def Q_Moment_ (g : C_Q_Moment) (a1 : Int) {R : Type} (k0 : Bool → Option R) : Option R :=
 (g.Q_in a1 0 345686399999 (fun r2 => k0 r2))
noncomputable def I_Q_Moment [Fuel] : C_Q_Moment := ⟨NN, @Q_in _⟩
noncomputable def Q_Moment [Fuel] : T_Q_Moment := @Q_Moment_ I_Q_Moment
def SS_Q_Moment (g : T_Q_Moment) : Spec A := fun args => match args with | [.d (.int .i64 a1)] => fun k => g a1 (fun z0 => k (.d (.bool z0)) [.undef]) | _ => fun _ => none
noncomputable def code_82 : Code := (Tryz.f82.body).getD .skip
noncomputable def E_Q_Moment (g : C_Q_Moment) : Env A := mkE [(83, SS_Q_in g.Q_in)] [] [] [] [] [] [] [] [] []
theorem sm_Q_Moment (g : C_Q_Moment) : Same (SS_Q_Moment (@Q_Moment_ g)) (abody (E_Q_Moment g) Tryz.f82 code_82 0 [] [.asis] g.N) := by intro args; unfold SS_Q_Moment; split; exact .inr fun R k => (by kernel_rfl); exact .inl fun R k => rfl
theorem ok_Q_Moment [Fuel] : Ok 82 (SS_Q_Moment (@Q_Moment _)) := okF_of std (.cons ok_Q_in .nil) ⟨rfl, rfl, by kernel_rfl, rfl, rfl, rfl⟩ (sm_Q_Moment I_Q_Moment) (cuts0 (fun _ => rfl) (by kernel_rfl)) Tryz.func82 (by kernel_rfl) (by kernel_rfl)
abbrev T_strings_IndexByte : Type 1 := List UInt8 → Int → {R : Type} → (Int → Option R) → Option R
def strings_IndexByte [Fuel] : T_strings_IndexByte := @X_ixb
def SS_strings_IndexByte (g : T_strings_IndexByte) : Spec A := SSX_ixb g
theorem ok_strings_IndexByte [Fuel] : Ok 178 (SS_strings_IndexByte (@strings_IndexByte _)) := ⟨ssx_ixb_sound (ixb_sound (Any.strings_IndexByte Tryz.lays137)), ssx_ixb_nat, enters_of (fn := Tryz.f178) Tryz.func178 (by kernel_rfl) (by kernel_rfl)⟩
abbrev T_Q_only : Type 1 := List UInt8 → List UInt8 → {R : Type} → (Bool → Option R) → Option R
structure C_Q_only where
 N : Nat
 strings_IndexByte : T_strings_IndexByte
def Q_only_L2 (g : C_Q_only) : Nat → List UInt8 → List UInt8 → Int → Int → {R : Type} → (Bool → Option R) → Option R → Option R
 | 0, _, _, _, _, _, _, _ => none
 | n + 1, v3, v4, v5, v6, _, e0, e1 => (bif (decide (v6 < v5)) then (get_ v3 v6 fun x9 => (g.strings_IndexByte v4 (x9.toNat : Int) (fun r10 => (bif (decide (r10 < 0)) then e0 false else Q_only_L2 g n v3 v4 v5 (w64 (v6 + 1)) e0 e1)))) else e1)
def Q_only_ (g : C_Q_only) (a1 a2 : List UInt8) {R : Type} (k0 : Bool → Option R) : Option R :=
 (Q_only_L2 g g.N a1 a2 (a1.length : Int) 0 (fun e11 => k0 e11) (k0 true))
noncomputable def I_Q_only [Fuel] : C_Q_only := ⟨NN, @strings_IndexByte _⟩
noncomputable def Q_only [Fuel] : T_Q_only := @Q_only_ I_Q_only
def SS_Q_only (g : T_Q_only) : Spec A := fun args => match args with | [.d (.str a1), .d (.str a2)] => fun k => g a1 a2 (fun z0 => k (.d (.bool z0)) [.undef, .undef]) | _ => fun _ => none
def sh_Q_only_L2 : SSt := mkSh 18 0 [(0, .str), (1, .str), (7, .int .i64), (8, .int .i64)] []
def LP_Q_only_L2 (g : C_Q_only) (n : Nat) : LPT A := fun ps => match ps with | [.d (.str p1), .d (.str p2), .d (.int .i64 p3), .d (.int .i64 p4)] => fun K => Q_only_L2 g n p1 p2 p3 p4 (fun z0 => K .ret (mkSt 18 0 [(4, .d (.bool z0))] [])) (K (.exit 0) (mkSt 18 0 [] [])) | _ => fun _ => none
noncomputable def code_141 : Code := (Tryz.f141.body).getD .skip
noncomputable def E_Q_only (g : C_Q_only) : Env A := mkE [(178, SS_strings_IndexByte g.strings_IndexByte)] [] [(2, ⟨[0, 1, 7, 8], [], [], [], [], [], []⟩)] [(2, ⟨[4], [], [], [], [], [], []⟩)] [(2, pieceOf sh_Q_only_L2 (LP_Q_only_L2 g g.N))] [] [] [] [] []
theorem ct_Q_only [Fuel] : NatTab (E_Q_only I_Q_only).C := ct_of (P := Tryz.prog) (T := T) (.cons ok_strings_IndexByte .nil) (by kernel_rfl)
noncomputable def cb_Q_only_L2 : Code := sub [1, 0, 1, 0, 0] code_141
theorem s_Q_only_L2 (g : C_Q_only) (n : Nat) : StepOk (E_Q_only g) g.N cb_Q_only_L2 sh_Q_only_L2 (LP_Q_only_L2 g) n := by intro ps; unfold LP_Q_only_L2; split; exact .inr fun R K => (by kernel_rfl); exact .inl fun R K => rfl
theorem lf_Q_only_L2 [Fuel] : LoopFine (E_Q_only I_Q_only) NN cb_Q_only_L2 := fine_loop sh_Q_only_L2 (LP_Q_only_L2 I_Q_only) (by kernel_rfl) ct_Q_only (cuts0 (fun _ => rfl) (by kernel_rfl)) (fun ps R K => by unfold LP_Q_only_L2; split <;> (try unfold Q_only_L2) <;> rfl) (s_Q_only_L2 I_Q_only)
theorem sm_Q_only (g : C_Q_only) : Same (SS_Q_only (@Q_only_ g)) (abody (E_Q_only g) Tryz.f141 code_141 0 [] [.asis] g.N) := by intro args; unfold SS_Q_only; split; exact .inr fun R k => (by kernel_rfl); exact .inl fun R k => rfl
theorem ok_Q_only [Fuel] : Ok 141 (SS_Q_only (@Q_only _)) := okF_of std (.cons ok_strings_IndexByte .nil) ⟨rfl, rfl, by kernel_rfl, rfl, rfl, rfl⟩ (sm_Q_only I_Q_only) (cutsL (fun _ => rfl) (.cons lf_Q_only_L2 .nil) (by kernel_rfl)) Tryz.func141 (by kernel_rfl) (by kernel_rfl)
abbrev T_Q_Key : Type 1 := List UInt8 → {R : Type} → (Bool → Option R) → Option R
structure C_Q_Key where
 N : Nat
 Q_in : T_Q_in
 Q_only : T_Q_only
def Q_Key_ (g : C_Q_Key) (a1 : List UInt8) {R : Type} (k0 : Bool → Option R) : Option R :=
 (g.Q_in (a1.length : Int) 1 40 (fun r2 => (bif r2 then (bif (decide (0 ≤ 1) && decide (1 ≤ (a1.length : Int))) then (g.Q_only (a1.take (1 : Int).toNat) [97, 98, 99, 100, 101, 102, 103, 104, 105, 106, 107, 108, 109, 110, 111, 112, 113, 114, 115, 116, 117, 118, 119, 120, 121, 122] (fun r3 => (bif r3 then (g.Q_only a1 [97, 98, 99, 100, 101, 102, 103, 104, 105, 106, 107, 108, 109, 110, 111, 112, 113, 114, 115, 116, 117, 118, 119, 120, 121, 122, 48, 49, 50, 51, 52, 53, 54, 55, 56, 57, 45, 95] (fun r4 => k0 r4)) else k0 false))) else none) else k0 false)))
noncomputable def I_Q_Key [Fuel] : C_Q_Key := ⟨NN, @Q_in _, @Q_only _⟩
noncomputable def Q_Key [Fuel] : T_Q_Key := @Q_Key_ I_Q_Key
def SS_Q_Key (g : T_Q_Key) : Spec A := fun args => match args with | [.d (.str a1)] => fun k => g a1 (fun z0 => k (.d (.bool z0)) [.undef]) | _ => fun _ => none
noncomputable def code_85 : Code := (Tryz.f85.body).getD .skip
noncomputable def E_Q_Key (g : C_Q_Key) : Env A := mkE [(83, SS_Q_in g.Q_in), (141, SS_Q_only g.Q_only)] [] [] [] [] [] [] [] [] []
theorem sm_Q_Key (g : C_Q_Key) : Same (SS_Q_Key (@Q_Key_ g)) (abody (E_Q_Key g) Tryz.f85 code_85 0 [] [.asis] g.N) := by intro args; unfold SS_Q_Key; split; exact .inr fun R k => (by kernel_rfl); exact .inl fun R k => rfl
theorem ok_Q_Key [Fuel] : Ok 85 (SS_Q_Key (@Q_Key _)) := okF_of std (.cons ok_Q_in (.cons ok_Q_only .nil)) ⟨rfl, rfl, by kernel_rfl, rfl, rfl, rfl⟩ (sm_Q_Key I_Q_Key) (cuts0 (fun _ => rfl) (by kernel_rfl)) Tryz.func85 (by kernel_rfl) (by kernel_rfl)
abbrev T_stringslite_Index : Type 1 := List UInt8 → List UInt8 → {R : Type} → (Int → Option R) → Option R
def stringslite_Index [Fuel] : T_stringslite_Index := @X_ix1
def SS_stringslite_Index (g : T_stringslite_Index) : Spec A := SSX_ix1 g
theorem ok_stringslite_Index [Fuel] : Ok 218 (SS_stringslite_Index (@stringslite_Index _)) := ⟨ssx_ix1_sound (ix1_sound (Any.stringslite_Index_one Tryz.lays219)), ssx_ix1_nat, enters_of (fn := Tryz.f218) Tryz.func218 (by kernel_rfl) (by kernel_rfl)⟩
abbrev T_stringslite_Cut : Type 1 := List UInt8 → List UInt8 → {R : Type} → (List UInt8 → List UInt8 → Bool → Option R) → Option R
structure C_stringslite_Cut where
 N : Nat
 stringslite_Index : T_stringslite_Index
def stringslite_Cut_ (g : C_stringslite_Cut) (a1 a2 : List UInt8) {R : Type} (k0 : List UInt8 → List UInt8 → Bool → Option R) : Option R :=
 (g.stringslite_Index a1 a2 (fun r3 => (bif (decide (r3 ≥ 0)) then (bif (decide (0 ≤ r3) && decide (r3 ≤ (a1.length : Int))) then (bif (decide (0 ≤ (w64 (r3 + (a2.length : Int)))) && decide ((w64 (r3 + (a2.length : Int))) ≤ (a1.length : Int))) then k0 (a1.take (r3 : Int).toNat) (a1.drop ((w64 (r3 + (a2.length : Int))) : Int).toNat) true else none) else none) else k0 a1 [] false)))
noncomputable def I_stringslite_Cut [Fuel] : C_stringslite_Cut := ⟨NN, @stringslite_Index _⟩
noncomputable def stringslite_Cut [Fuel] : T_stringslite_Cut := @stringslite_Cut_ I_stringslite_Cut
def SS_stringslite_Cut (g : T_stringslite_Cut) : Spec A := fun args => match args with | [.d (.str a1), .d (.str a2)] => fun k => g a1 a2 (fun z0 z1 z2 => k (.tup [.d (.str z0), .d (.str z1), .d (.bool z2)]) [.undef, .undef]) | _ => fun _ => none
noncomputable def code_173 : Code := (Tryz.f173.body).getD .skip
noncomputable def E_stringslite_Cut (g : C_stringslite_Cut) : Env A := mkE [(218, SS_stringslite_Index g.stringslite_Index)] [] [] [] [] [] [] [] [] []
theorem sm_stringslite_Cut (g : C_stringslite_Cut) : Same (SS_stringslite_Cut (@stringslite_Cut_ g)) (abody (E_stringslite_Cut g) Tryz.f173 code_173 0 [] [.asis, .asis, .asis] g.N) := by intro args; unfold SS_stringslite_Cut; split; exact .inr fun R k => (by kernel_rfl); exact .inl fun R k => rfl
theorem ok_stringslite_Cut [Fuel] : Ok 173 (SS_stringslite_Cut (@stringslite_Cut _)) := okF_of std (.cons ok_stringslite_Index .nil) ⟨rfl, rfl, by kernel_rfl, rfl, rfl, rfl⟩ (sm_stringslite_Cut I_stringslite_Cut) (cuts0 (fun _ => rfl) (by kernel_rfl)) Tryz.func173 (by kernel_rfl) (by kernel_rfl)
abbrev T_strings_Cut : Type 1 := List UInt8 → List UInt8 → {R : Type} → (List UInt8 → List UInt8 → Bool → Option R) → Option R
structure C_strings_Cut where
 N : Nat
 stringslite_Cut : T_stringslite_Cut
def strings_Cut_ (g : C_strings_Cut) (a1 a2 : List UInt8) {R : Type} (k0 : List UInt8 → List UInt8 → Bool → Option R) : Option R :=
 (g.stringslite_Cut a1 a2 (fun r3 r4 r5 => k0 r3 r4 r5))
noncomputable def I_strings_Cut [Fuel] : C_strings_Cut := ⟨NN, @stringslite_Cut _⟩
noncomputable def strings_Cut [Fuel] : T_strings_Cut := @strings_Cut_ I_strings_Cut
def SS_strings_Cut (g : T_strings_Cut) : Spec A := fun args => match args with | [.d (.str a1), .d (.str a2)] => fun k => g a1 a2 (fun z0 z1 z2 => k (.tup [.d (.str z0), .d (.str z1), .d (.bool z2)]) [.undef, .undef]) | _ => fun _ => none
noncomputable def code_128 : Code := (Tryz.f128.body).getD .skip
noncomputable def E_strings_Cut (g : C_strings_Cut) : Env A := mkE [(173, SS_stringslite_Cut g.stringslite_Cut)] [] [] [] [] [] [] [] [] []
theorem sm_strings_Cut (g : C_strings_Cut) : Same (SS_strings_Cut (@strings_Cut_ g)) (abody (E_strings_Cut g) Tryz.f128 code_128 0 [] [.asis, .asis, .asis] g.N) := by intro args; unfold SS_strings_Cut; split; exact .inr fun R k => (by kernel_rfl); exact .inl fun R k => rfl
theorem ok_strings_Cut [Fuel] : Ok 128 (SS_strings_Cut (@strings_Cut _)) := okF_of std (.cons ok_stringslite_Cut .nil) ⟨rfl, rfl, by kernel_rfl, rfl, rfl, rfl⟩ (sm_strings_Cut I_strings_Cut) (cuts0 (fun _ => rfl) (by kernel_rfl)) Tryz.func128 (by kernel_rfl) (by kernel_rfl)
abbrev T_strings_IndexRune : Type 1 := List UInt8 → Int → {R : Type} → (Int → Option R) → Option R
def strings_IndexRune [Fuel] : T_strings_IndexRune := @X_ixr
def SS_strings_IndexRune (g : T_strings_IndexRune) : Spec A := SSX_ixr g
theorem ok_strings_IndexRune [Fuel] : Ok 280 (SS_strings_IndexRune (@strings_IndexRune _)) := ⟨ssx_ixr_sound (ixr_sound (fun s r w h0 h1 => Any.strings_IndexRune_ascii Tryz.lays152 s r w h0 h1)), ssx_ixr_nat, enters_of (fn := Tryz.f280) Tryz.func280 (by kernel_rfl) (by kernel_rfl)⟩
abbrev T_strings_shouldUseASCIISet : Type 1 := Int → {R : Type} → (Bool → Option R) → Option R
def strings_shouldUseASCIISet_ (g : Nat) (a1 : Int) {R : Type} (k0 : Bool → Option R) : Option R :=
 k0 (decide (a1 > 8))
noncomputable def strings_shouldUseASCIISet [Fuel] : T_strings_shouldUseASCIISet := @strings_shouldUseASCIISet_ NN
def SS_strings_shouldUseASCIISet (g : T_strings_shouldUseASCIISet) : Spec A := fun args => match args with | [.d (.int .i64 a1)] => fun k => g a1 (fun z0 => k (.d (.bool z0)) [.undef]) | _ => fun _ => none
noncomputable def code_281 : Code := (Tryz.f281.body).getD .skip
noncomputable def E_strings_shouldUseASCIISet (g : Nat) : Env A := mkE [] [] [] [] [] [] [] [] [] []
theorem sm_strings_shouldUseASCIISet (g : Nat) : Same (SS_strings_shouldUseASCIISet (@strings_shouldUseASCIISet_ g)) (abody (E_strings_shouldUseASCIISet g) Tryz.f281 code_281 0 [] [.asis] g) := by intro args; unfold SS_strings_shouldUseASCIISet; split; exact .inr fun R k => (by kernel_rfl); exact .inl fun R k => rfl
theorem ok_strings_shouldUseASCIISet [Fuel] : Ok 281 (SS_strings_shouldUseASCIISet (@strings_shouldUseASCIISet _)) := okF_of std .nil ⟨rfl, rfl, by kernel_rfl, rfl, rfl, rfl⟩ (sm_strings_shouldUseASCIISet NN) (cuts0 (fun _ => rfl) (by kernel_rfl)) Tryz.func281 (by kernel_rfl) (by kernel_rfl)
abbrev T_strings_makeASCIISet : Type 1 := List UInt8 → {R : Type} → Option R
def strings_makeASCIISet_ (g : Nat) (a1 : List UInt8) {R : Type}  : Option R :=
 none
noncomputable def strings_makeASCIISet [Fuel] : T_strings_makeASCIISet := @strings_makeASCIISet_ NN
def SS_strings_makeASCIISet (g : T_strings_makeASCIISet) : Spec A := fun args => match args with | [.d (.str a1)] => fun k => g a1 | _ => fun _ => none
noncomputable def code_226 : Code := (Tryz.f226.body).getD .skip
noncomputable def E_strings_makeASCIISet (g : Nat) : Env A := mkE [] [] [] [] [] [] [] [] [] []
noncomputable def cb_strings_makeASCIISet_L2 : Code := sub [1, 0, 1, 0, 0] code_226
theorem lf_strings_makeASCIISet_L2 [Fuel] : LoopFine (E_strings_makeASCIISet NN) NN cb_strings_makeASCIISet_L2 := no_loop (by kernel_rfl)
theorem sm_strings_makeASCIISet (g : Nat) : Same (SS_strings_makeASCIISet (@strings_makeASCIISet_ g)) (abody (E_strings_makeASCIISet g) Tryz.f226 code_226 0 [] [.asis, .asis] g) := by intro args; unfold SS_strings_makeASCIISet; split; exact .inr fun R k => (by kernel_rfl); exact .inl fun R k => rfl
theorem ok_strings_makeASCIISet [Fuel] : Ok 226 (SS_strings_makeASCIISet (@strings_makeASCIISet _)) := okF_of std .nil ⟨rfl, rfl, by kernel_rfl, rfl, rfl, rfl⟩ (sm_strings_makeASCIISet NN) (cutsL (fun _ => rfl) (.cons lf_strings_makeASCIISet_L2 .nil) (by kernel_rfl)) Tryz.func226 (by kernel_rfl) (by kernel_rfl)
abbrev T_utf8_RuneStart : Type 1 := Int → {R : Type} → Option R
def utf8_RuneStart_ (g : Nat) (a1 : Int) {R : Type}  : Option R :=
 none
noncomputable def utf8_RuneStart [Fuel] : T_utf8_RuneStart := @utf8_RuneStart_ NN
def SS_utf8_RuneStart (g : T_utf8_RuneStart) : Spec A := fun args => match args with | [.d (.int .u8 a1)] => fun k => g a1 | _ => fun _ => none
noncomputable def code_304 : Code := (Tryz.f304.body).getD .skip
noncomputable def E_utf8_RuneStart (g : Nat) : Env A := mkE [] [] [] [] [] [] [] [] [] []
theorem sm_utf8_RuneStart (g : Nat) : Same (SS_utf8_RuneStart (@utf8_RuneStart_ g)) (abody (E_utf8_RuneStart g) Tryz.f304 code_304 0 [] [.asis] g) := by intro args; unfold SS_utf8_RuneStart; split; exact .inr fun R k => (by kernel_rfl); exact .inl fun R k => rfl
theorem ok_utf8_RuneStart [Fuel] : Ok 304 (SS_utf8_RuneStart (@utf8_RuneStart _)) := okF_of std .nil ⟨rfl, rfl, by kernel_rfl, rfl, rfl, rfl⟩ (sm_utf8_RuneStart NN) (cuts0 (fun _ => rfl) (by kernel_rfl)) Tryz.func304 (by kernel_rfl) (by kernel_rfl)
abbrev T_utf8_decodeRuneInStringSlow : Type 1 := List UInt8 → {R : Type} → (Int → Int → Option R) → Option R
def utf8_decodeRuneInStringSlow_ (g : Nat) (a1 : List UInt8) {R : Type} (k0 : Int → Int → Option R) : Option R :=
 (bif (decide ((a1.length : Int) < 1)) then k0 65533 0 else (at_ a1 0 fun x2 => none))
noncomputable def utf8_decodeRuneInStringSlow [Fuel] : T_utf8_decodeRuneInStringSlow := @utf8_decodeRuneInStringSlow_ NN
def SS_utf8_decodeRuneInStringSlow (g : T_utf8_decodeRuneInStringSlow) : Spec A := fun args => match args with | [.d (.str a1)] => fun k => g a1 (fun z0 z1 => k (.tup [.d (.int .i32 z0), .d (.int .i64 z1)]) [.undef]) | _ => fun _ => none
noncomputable def code_301 : Code := (Tryz.f301.body).getD .skip
noncomputable def E_utf8_decodeRuneInStringSlow (g : Nat) : Env A := mkE [] [] [] [] [] [] [] [] [] []
theorem sm_utf8_decodeRuneInStringSlow (g : Nat) : Same (SS_utf8_decodeRuneInStringSlow (@utf8_decodeRuneInStringSlow_ g)) (abody (E_utf8_decodeRuneInStringSlow g) Tryz.f301 code_301 0 [] [.asis, .asis] g) := by intro args; unfold SS_utf8_decodeRuneInStringSlow; split; exact .inr fun R k => (by kernel_rfl); exact .inl fun R k => rfl
theorem ok_utf8_decodeRuneInStringSlow [Fuel] : Ok 301 (SS_utf8_decodeRuneInStringSlow (@utf8_decodeRuneInStringSlow _)) := okF_of std .nil ⟨rfl, rfl, by kernel_rfl, rfl, rfl, rfl⟩ (sm_utf8_decodeRuneInStringSlow NN) (cuts0 (fun _ => rfl) (by kernel_rfl)) Tryz.func301 (by kernel_rfl) (by kernel_rfl)
abbrev T_utf8_DecodeRuneInString : Type 1 := List UInt8 → {R : Type} → (Int → Int → Option R) → Option R
structure C_utf8_DecodeRuneInString where
 N : Nat
 utf8_decodeRuneInStringSlow : T_utf8_decodeRuneInStringSlow
def utf8_DecodeRuneInString_ (g : C_utf8_DecodeRuneInString) (a1 : List UInt8) {R : Type} (k0 : Int → Int → Option R) : Option R :=
 (bif (!(a1 == [])) then (at_ a1 0 fun x2 => (bif (decide ((x2.toNat : Int) < 128)) then (at_ a1 0 fun x3 => k0 (IntKind.i32.wrap (x3.toNat : Int)) 1) else (g.utf8_decodeRuneInStringSlow a1 (fun r4 r5 => k0 r4 r5)))) else (g.utf8_decodeRuneInStringSlow a1 (fun r6 r7 => k0 r6 r7)))
noncomputable def I_utf8_DecodeRuneInString [Fuel] : C_utf8_DecodeRuneInString := ⟨NN, @utf8_decodeRuneInStringSlow _⟩
noncomputable def utf8_DecodeRuneInString [Fuel] : T_utf8_DecodeRuneInString := @utf8_DecodeRuneInString_ I_utf8_DecodeRuneInString
def SS_utf8_DecodeRuneInString (g : T_utf8_DecodeRuneInString) : Spec A := fun args => match args with | [.d (.str a1)] => fun k => g a1 (fun z0 z1 => k (.tup [.d (.int .i32 z0), .d (.int .i64 z1)]) [.undef]) | _ => fun _ => none
noncomputable def code_262 : Code := (Tryz.f262.body).getD .skip
noncomputable def E_utf8_DecodeRuneInString (g : C_utf8_DecodeRuneInString) : Env A := mkE [(301, SS_utf8_decodeRuneInStringSlow g.utf8_decodeRuneInStringSlow)] [] [] [] [] [] [] [] [] []
theorem sm_utf8_DecodeRuneInString (g : C_utf8_DecodeRuneInString) : Same (SS_utf8_DecodeRuneInString (@utf8_DecodeRuneInString_ g)) (abody (E_utf8_DecodeRuneInString g) Tryz.f262 code_262 0 [] [.asis, .asis] g.N) := by intro args; unfold SS_utf8_DecodeRuneInString; split; exact .inr fun R k => (by kernel_rfl); exact .inl fun R k => rfl
theorem ok_utf8_DecodeRuneInString [Fuel] : Ok 262 (SS_utf8_DecodeRuneInString (@utf8_DecodeRuneInString _)) := okF_of std (.cons ok_utf8_decodeRuneInStringSlow .nil) ⟨rfl, rfl, by kernel_rfl, rfl, rfl, rfl⟩ (sm_utf8_DecodeRuneInString I_utf8_DecodeRuneInString) (cuts0 (fun _ => rfl) (by kernel_rfl)) Tryz.func262 (by kernel_rfl) (by kernel_rfl)
abbrev T_utf8_DecodeLastRuneInString : Type 1 := List UInt8 → {R : Type} → (Int → Int → Option R) → Option R
structure C_utf8_DecodeLastRuneInString where
 N : Nat
 utf8_DecodeRuneInString : T_utf8_DecodeRuneInString
 utf8_RuneStart : T_utf8_RuneStart
def utf8_DecodeLastRuneInString_L10 (g : C_utf8_DecodeLastRuneInString) : Nat → List UInt8 → Int → Int → Int → {R : Type} → (List UInt8 → Int → Int → Option R) → Option R
 | 0, _, _, _, _, _, _ => none
 | n + 1, v3, v4, v5, v6, _, e0 => (bif (decide (v5 ≥ v6)) then (get_ v3 v5 fun x8 => (g.utf8_RuneStart (x8.toNat : Int))) else e0 v3 v4 v5)
def utf8_DecodeLastRuneInString_ (g : C_utf8_DecodeLastRuneInString) (a1 : List UInt8) {R : Type} (k0 : Int → Int → Option R) : Option R :=
 (bif ((a1.length : Int) == 0) then k0 65533 0 else (get_ a1 (w64 ((a1.length : Int) - 1)) fun x2 => (bif (decide ((IntKind.i32.wrap (x2.toNat : Int)) < 128)) then k0 (IntKind.i32.wrap (x2.toNat : Int)) 1 else (utf8_DecodeLastRuneInString_L10 g g.N a1 (a1.length : Int) (w64 ((w64 ((a1.length : Int) - 1)) - 1)) (if 0 > (w64 ((a1.length : Int) - 4)) then 0 else (w64 ((a1.length : Int) - 4))) (fun e9 e10 e11 => (bif (decide (e11 < 0)) then (bif (decide (0 ≤ 0) && (decide (0 ≤ e10) && decide (e10 ≤ (e9.length : Int)))) then (g.utf8_DecodeRuneInString ((e9.take (e10 : Int).toNat).drop (0 : Int).toNat) (fun r12 r13 => (bif ((w64 (0 + r13)) != e10) then k0 65533 1 else k0 r12 r13))) else none) else (bif (decide (0 ≤ e11) && (decide (e11 ≤ e10) && decide (e10 ≤ (e9.length : Int)))) then (g.utf8_DecodeRuneInString ((e9.take (e10 : Int).toNat).drop (e11 : Int).toNat) (fun r14 r15 => (bif ((w64 (e11 + r15)) != e10) then k0 65533 1 else k0 r14 r15))) else none)))))))
noncomputable def I_utf8_DecodeLastRuneInString [Fuel] : C_utf8_DecodeLastRuneInString := ⟨NN, @utf8_DecodeRuneInString _, @utf8_RuneStart _⟩
noncomputable def utf8_DecodeLastRuneInString [Fuel] : T_utf8_DecodeLastRuneInString := @utf8_DecodeLastRuneInString_ I_utf8_DecodeLastRuneInString
def SS_utf8_DecodeLastRuneInString (g : T_utf8_DecodeLastRuneInString) : Spec A := fun args => match args with | [.d (.str a1)] => fun k => g a1 (fun z0 z1 => k (.tup [.d (.int .i32 z0), .d (.int .i64 z1)]) [.undef]) | _ => fun _ => none
def sh_utf8_DecodeLastRuneInString_L10 : SSt := mkSh 51 0 [(0, .str), (4, .int .i64), (5, .int .i64), (6, .int .i64)] []
def LP_utf8_DecodeLastRuneInString_L10 (g : C_utf8_DecodeLastRuneInString) (n : Nat) : LPT A := fun ps => match ps with | [.d (.str p1), .d (.int .i64 p2), .d (.int .i64 p3), .d (.int .i64 p4)] => fun K => utf8_DecodeLastRuneInString_L10 g n p1 p2 p3 p4 (fun z0 z1 z2 => K (.exit 0) (mkSt 51 0 [(0, .d (.str z0)), (4, .d (.int .i64 z1)), (5, .d (.int .i64 z2))] [])) | _ => fun _ => none
noncomputable def code_274 : Code := (Tryz.f274.body).getD .skip
noncomputable def E_utf8_DecodeLastRuneInString (g : C_utf8_DecodeLastRuneInString) : Env A := mkE [(262, SS_utf8_DecodeRuneInString g.utf8_DecodeRuneInString), (304, SS_utf8_RuneStart g.utf8_RuneStart)] [] [(10, ⟨[0, 4, 5, 6], [], [], [], [], [], []⟩)] [(10, ⟨[0, 4, 5], [], [], [], [], [], []⟩)] [(10, pieceOf sh_utf8_DecodeLastRuneInString_L10 (LP_utf8_DecodeLastRuneInString_L10 g g.N))] [] [] [] [] []
theorem ct_utf8_DecodeLastRuneInString [Fuel] : NatTab (E_utf8_DecodeLastRuneInString I_utf8_DecodeLastRuneInString).C := ct_of (P := Tryz.prog) (T := T) (.cons ok_utf8_DecodeRuneInString (.cons ok_utf8_RuneStart .nil)) (by kernel_rfl)
noncomputable def cb_utf8_DecodeLastRuneInString_L10 : Code := sub [1, 1, 1, 1, 1, 1, 1, 0, 1, 0, 0] code_274
theorem s_utf8_DecodeLastRuneInString_L10 (g : C_utf8_DecodeLastRuneInString) (n : Nat) : StepOk (E_utf8_DecodeLastRuneInString g) g.N cb_utf8_DecodeLastRuneInString_L10 sh_utf8_DecodeLastRuneInString_L10 (LP_utf8_DecodeLastRuneInString_L10 g) n := by intro ps; unfold LP_utf8_DecodeLastRuneInString_L10; split; exact .inr fun R K => (by kernel_rfl); exact .inl fun R K => rfl
theorem lf_utf8_DecodeLastRuneInString_L10 [Fuel] : LoopFine (E_utf8_DecodeLastRuneInString I_utf8_DecodeLastRuneInString) NN cb_utf8_DecodeLastRuneInString_L10 := fine_loop sh_utf8_DecodeLastRuneInString_L10 (LP_utf8_DecodeLastRuneInString_L10 I_utf8_DecodeLastRuneInString) (by kernel_rfl) ct_utf8_DecodeLastRuneInString (cuts0 (fun _ => rfl) (by kernel_rfl)) (fun ps R K => by unfold LP_utf8_DecodeLastRuneInString_L10; split <;> (try unfold utf8_DecodeLastRuneInString_L10) <;> rfl) (s_utf8_DecodeLastRuneInString_L10 I_utf8_DecodeLastRuneInString)
theorem sm_utf8_DecodeLastRuneInString (g : C_utf8_DecodeLastRuneInString) : Same (SS_utf8_DecodeLastRuneInString (@utf8_DecodeLastRuneInString_ g)) (abody (E_utf8_DecodeLastRuneInString g) Tryz.f274 code_274 0 [] [.asis, .asis] g.N) := by intro args; unfold SS_utf8_DecodeLastRuneInString; split; exact .inr fun R k => (by kernel_rfl); exact .inl fun R k => rfl
theorem ok_utf8_DecodeLastRuneInString [Fuel] : Ok 274 (SS_utf8_DecodeLastRuneInString (@utf8_DecodeLastRuneInString _)) := okF_of std (.cons ok_utf8_DecodeRuneInString (.cons ok_utf8_RuneStart .nil)) ⟨rfl, rfl, by kernel_rfl, rfl, rfl, rfl⟩ (sm_utf8_DecodeLastRuneInString I_utf8_DecodeLastRuneInString) (cutsL (fun _ => rfl) (.cons lf_utf8_DecodeLastRuneInString_L10 .nil) (by kernel_rfl)) Tryz.func274 (by kernel_rfl) (by kernel_rfl)
end Go.Am
