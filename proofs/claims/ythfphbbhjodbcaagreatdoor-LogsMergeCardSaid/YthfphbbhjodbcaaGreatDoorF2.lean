/- The functions of the program as Lean functions, each shown to be what the code computes, part 2. No condition: lemmas for the claim. -/
import Derived.Test.YthfphbbhjodbcaaGreatDoorF0
import Derived.Test.YthfphbbhjodbcaaGreatDoorFSh
import Derived.Test.YthfphbbhjodbcaaGreatDoorF1
set_option linter.unusedVariables false
set_option maxRecDepth 100000
namespace Go.Am
open Go Go.Proofs
abbrev T_Stream_Contacts_1 : Type 1 := G_Contact → G_Contact → {R : Type} → (Bool → Option R) → Option R
structure C_Stream_Contacts_1 where
  N : Nat
  Q_ContactOrder : T_Q_ContactOrder
def Stream_Contacts_1_ (g : C_Stream_Contacts_1) (a1 a2 : G_Contact) {R : Type} (k0 : Bool → Option R) : Option R :=
  (g.Q_ContactOrder a1 a2 (fun r3 => k0 (r3 == 0)))
def I_Stream_Contacts_1 [Fuel] : C_Stream_Contacts_1 := ⟨NN, @Q_ContactOrder _⟩
def Stream_Contacts_1 [Fuel] : T_Stream_Contacts_1 := @Stream_Contacts_1_ I_Stream_Contacts_1
def SS_Stream_Contacts_1 (g : T_Stream_Contacts_1) : Spec A := fun args => match args with | [.agg [.d (.int .i64 a1), .d (.int .i64 a2), .d (.str a3), .d (.str a4), .d (.int .i64 a5), .d (.int .i64 a6), .d (.str a7), .d (.str a8)], .agg [.d (.int .i64 a9), .d (.int .i64 a10), .d (.str a11), .d (.str a12), .d (.int .i64 a13), .d (.int .i64 a14), .d (.str a15), .d (.str a16)]] => fun k => g ⟨a1, a2, a3, a4, a5, a6, a7, a8⟩ ⟨a9, a10, a11, a12, a13, a14, a15, a16⟩ (fun z0 => k (.d (.bool z0)) [.undef, .undef]) | _ => fun _ => none
noncomputable def code_41 : Code := (Tryz.f41.body).getD .skip
noncomputable def E_Stream_Contacts_1 (g : C_Stream_Contacts_1) : Env A := mkE [(39, SS_Q_ContactOrder g.Q_ContactOrder)] [(2, [0]), (3, [1])] [] [] [] [] [] [] [] []
theorem sm_Stream_Contacts_1 (g : C_Stream_Contacts_1) : Same (SS_Stream_Contacts_1 (@Stream_Contacts_1_ g)) (abody (E_Stream_Contacts_1 g) Tryz.f41 code_41 2 [] [.asis] g.N) := by intro args; unfold SS_Stream_Contacts_1; split; exact .inr fun R k => (by kernel_rfl); exact .inl fun R k => rfl
theorem ok_Stream_Contacts_1 [Fuel] : Ok 41 (SS_Stream_Contacts_1 (@Stream_Contacts_1 _)) := okF_of std (.cons ok_Q_ContactOrder .nil) ⟨rfl, rfl, by kernel_rfl, rfl, rfl⟩ (sm_Stream_Contacts_1 I_Stream_Contacts_1) (cuts0 (fun _ => rfl) (by kernel_rfl)) Tryz.func41 (by kernel_rfl) (by kernel_rfl)
abbrev T_slices_CompactFunc__Contact_Stream_Contacts_1 : Type 1 := List G_Contact → {R : Type} → (List G_Contact → Option R) → Option R
structure C_slices_CompactFunc__Contact_Stream_Contacts_1 where
  N : Nat
  Stream_Contacts_1 : T_Stream_Contacts_1
def slices_CompactFunc__Contact_Stream_Contacts_1_L9 (g : C_slices_CompactFunc__Contact_Stream_Contacts_1) : Nat → Int → Int → Int → Int → List G_Contact → {R : Type} → (Int → List G_Contact → Option R) → Option R
  | 0, _, _, _, _, _, _, _ => none
  | n + 1, v27, v28, v29, v30, v31, _, e0 => (bif (decide (v30 < ((v29 - v28).toNat : Int))) then (bif (decide (0 ≤ v30) && (decide (v30 < v29 - v28) && decide (v28 + v30 < (v31.length : Int)))) then (at_ v31 (v28 + v30) fun x37 => (bif (decide (0 ≤ (w64 (v30 - 1))) && (decide ((w64 (v30 - 1)) < v29 - v28) && decide (v28 + (w64 (v30 - 1)) < (v31.length : Int)))) then (at_ v31 (v28 + (w64 (v30 - 1))) fun x38 => (g.Stream_Contacts_1 x37 x38 (fun r39 => (bif (!r39) then (bif (decide (0 ≤ v30) && (decide (v30 < v29 - v28) && decide (v28 + v30 < (v31.length : Int)))) then (at_ v31 (v28 + v30) fun x40 => (inr v31 v27 (at_ v31 v27 fun x41 => slices_CompactFunc__Contact_Stream_Contacts_1_L9 g n (w64 (v27 + 1)) v28 v29 (w64 (v30 + 1)) (set_ v31 v27 x40) e0))) else none) else slices_CompactFunc__Contact_Stream_Contacts_1_L9 g n v27 v28 v29 (w64 (v30 + 1)) v31 e0)))) else none)) else none) else e0 v27 v31)
def slices_CompactFunc__Contact_Stream_Contacts_1_L4 (g : C_slices_CompactFunc__Contact_Stream_Contacts_1) : Nat → Int → List G_Contact → {R : Type} → (List G_Contact → Option R) → (List G_Contact → Option R) → Option R
  | 0, _, _, _, _, _ => none
  | n + 1, v2, v3, _, e0, e1 => (bif (decide (v2 < (v3.length : Int))) then (inr v3 v2 (at_ v3 v2 fun x24 => (inr v3 (w64 (v2 - 1)) (at_ v3 (w64 (v2 - 1)) fun x25 => (g.Stream_Contacts_1 x24 x25 (fun r26 => (bif r26 then (bif (decide (0 < v3.length) && (decide (0 ≤ v2) && decide (v2 ≤ (v3.length : Int)))) then (slices_CompactFunc__Contact_Stream_Contacts_1_L9 g g.N v2 v2 (v3.length : Int) 1 v3 (fun e42 e43 => (bif (decide (0 < e43.length) && (decide (0 ≤ e42) && decide (e42 ≤ (e43.length : Int)))) then (bif (decide (0 ≤ e42) && (decide (e42 ≤ (e43.length : Int)) && decide (((e43.length : Int)).toNat ≤ e43.length))) then (bif (decide (0 ≤ e42) && decide (e42 ≤ ((e43.take (e42).toNat ++ (List.replicate ((e43.length : Int) - e42).toNat (⟨0, 0, [], [], 0, 0, [], []⟩ : G_Contact) ++ e43.drop ((e43.length : Int)).toNat)).length : Int))) then e0 ((e43.take (e42).toNat ++ (List.replicate ((e43.length : Int) - e42).toNat (⟨0, 0, [], [], 0, 0, [], []⟩ : G_Contact) ++ e43.drop ((e43.length : Int)).toNat)).take (e42 : Int).toNat) else none) else none) else none))) else none) else slices_CompactFunc__Contact_Stream_Contacts_1_L4 g n (w64 (v2 + 1)) v3 e0 e1))))))) else e1 v3)
def slices_CompactFunc__Contact_Stream_Contacts_1_ (g : C_slices_CompactFunc__Contact_Stream_Contacts_1) (a1 : List G_Contact) {R : Type} (k0 : List G_Contact → Option R) : Option R :=
  (bif (decide ((a1.length : Int) < 2)) then k0 a1 else (slices_CompactFunc__Contact_Stream_Contacts_1_L4 g g.N 1 a1 (fun e44 => k0 e44) (fun e45 => k0 e45)))
def I_slices_CompactFunc__Contact_Stream_Contacts_1 [Fuel] : C_slices_CompactFunc__Contact_Stream_Contacts_1 := ⟨NN, @Stream_Contacts_1 _⟩
def slices_CompactFunc__Contact_Stream_Contacts_1 [Fuel] : T_slices_CompactFunc__Contact_Stream_Contacts_1 := @slices_CompactFunc__Contact_Stream_Contacts_1_ I_slices_CompactFunc__Contact_Stream_Contacts_1
def SS_slices_CompactFunc__Contact_Stream_Contacts_1 (g : T_slices_CompactFunc__Contact_Stream_Contacts_1) : Spec A := fun args => match args with | [.arr 58 a1, .fn 41 []] => fun k => g a1 (fun z0 => k (.arr 58 z0) [.undef, .fn 41 []]) | _ => fun _ => none
def sh_slices_CompactFunc__Contact_Stream_Contacts_1_L9 : SSt := mkSh 66 6 [(0, .own 58 0), (1, .fn 41 []), (5, .int .i64), (6, .vw 58 0), (7, .int .i64)] [(0, .row 58)]
def LP_slices_CompactFunc__Contact_Stream_Contacts_1_L9 (g : C_slices_CompactFunc__Contact_Stream_Contacts_1) (n : Nat) : LPT A := fun ps => match ps with | [.d (.int .i64 p1), .z p2, .z p3, .d (.int .i64 p4), .d (.sl 58 p5)] => fun K => slices_CompactFunc__Contact_Stream_Contacts_1_L9 g n p1 p2 p3 p4 p5 (fun z0 z1 => K (.exit 2) (mkSt 66 6 [(0, .own 58 0), (1, .fn 41 []), (5, .d (.int .i64 z0))] [(0, some (.row 58 z1))])) | _ => fun _ => none
def sh_slices_CompactFunc__Contact_Stream_Contacts_1_L4 : SSt := mkSh 66 6 [(0, .own 58 0), (1, .fn 41 []), (5, .int .i64)] [(0, .row 58)]
def LP_slices_CompactFunc__Contact_Stream_Contacts_1_L4 (g : C_slices_CompactFunc__Contact_Stream_Contacts_1) (n : Nat) : LPT A := fun ps => match ps with | [.d (.int .i64 p1), .d (.sl 58 p2)] => fun K => slices_CompactFunc__Contact_Stream_Contacts_1_L4 g n p1 p2 (fun z0 => K .ret (mkSt 66 6 [(0, .own 58 0), (1, .fn 41 []), (4, .own 58 5)] [(5, some (.row 58 z0))])) (fun z0 => K (.exit 0) (mkSt 66 6 [(0, .own 58 0), (1, .fn 41 [])] [(0, some (.row 58 z0))])) | _ => fun _ => none
noncomputable def code_40 : Code := (Tryz.f40.body).getD .skip
noncomputable def E_slices_CompactFunc__Contact_Stream_Contacts_1 (g : C_slices_CompactFunc__Contact_Stream_Contacts_1) : Env A := mkE [(41, SS_Stream_Contacts_1 g.Stream_Contacts_1)] [(31, [1, 2]), (61, [3, 4]), (64, [5])] [(9, ⟨[0, 1, 5, 6, 7], [], [0], []⟩), (4, ⟨[0, 1, 5], [], [0], []⟩)] [(9, ⟨[0, 1, 5], [], [0], []⟩), (4, ⟨[0, 1, 4], [], [0, 5], []⟩)] [(9, pieceOf sh_slices_CompactFunc__Contact_Stream_Contacts_1_L9 (LP_slices_CompactFunc__Contact_Stream_Contacts_1_L9 g g.N)), (4, pieceOf sh_slices_CompactFunc__Contact_Stream_Contacts_1_L4 (LP_slices_CompactFunc__Contact_Stream_Contacts_1_L4 g g.N))] [] [] [] [] [1]
theorem ct_slices_CompactFunc__Contact_Stream_Contacts_1 [Fuel] : NatTab (E_slices_CompactFunc__Contact_Stream_Contacts_1 I_slices_CompactFunc__Contact_Stream_Contacts_1).C := ct_of (P := Tryz.prog) (T := T) (.cons ok_Stream_Contacts_1 .nil) (by kernel_rfl)
noncomputable def cb_slices_CompactFunc__Contact_Stream_Contacts_1_L9 : Code := sub [1, 1, 0, 1, 0, 0, 1, 0, 0, 1, 0, 1, 0, 1, 0, 0] code_40
theorem s_slices_CompactFunc__Contact_Stream_Contacts_1_L9 (g : C_slices_CompactFunc__Contact_Stream_Contacts_1) (n : Nat) : StepOk (E_slices_CompactFunc__Contact_Stream_Contacts_1 g) g.N cb_slices_CompactFunc__Contact_Stream_Contacts_1_L9 sh_slices_CompactFunc__Contact_Stream_Contacts_1_L9 (LP_slices_CompactFunc__Contact_Stream_Contacts_1_L9 g) n := by intro ps; unfold LP_slices_CompactFunc__Contact_Stream_Contacts_1_L9; split; exact .inr fun R K => (by kernel_rfl); exact .inl fun R K => rfl
theorem lf_slices_CompactFunc__Contact_Stream_Contacts_1_L9 [Fuel] : LoopFine (E_slices_CompactFunc__Contact_Stream_Contacts_1 I_slices_CompactFunc__Contact_Stream_Contacts_1) NN cb_slices_CompactFunc__Contact_Stream_Contacts_1_L9 := fine_loop sh_slices_CompactFunc__Contact_Stream_Contacts_1_L9 (LP_slices_CompactFunc__Contact_Stream_Contacts_1_L9 I_slices_CompactFunc__Contact_Stream_Contacts_1) (by kernel_rfl) ct_slices_CompactFunc__Contact_Stream_Contacts_1 (cuts0 (fun _ => rfl) (by kernel_rfl)) (fun ps R K => by unfold LP_slices_CompactFunc__Contact_Stream_Contacts_1_L9; split <;> (try unfold slices_CompactFunc__Contact_Stream_Contacts_1_L9) <;> rfl) (s_slices_CompactFunc__Contact_Stream_Contacts_1_L9 I_slices_CompactFunc__Contact_Stream_Contacts_1)
noncomputable def cb_slices_CompactFunc__Contact_Stream_Contacts_1_L4 : Code := sub [1, 1, 0, 1, 0, 0] code_40
theorem s_slices_CompactFunc__Contact_Stream_Contacts_1_L4 (g : C_slices_CompactFunc__Contact_Stream_Contacts_1) (n : Nat) : StepOk (E_slices_CompactFunc__Contact_Stream_Contacts_1 g) g.N cb_slices_CompactFunc__Contact_Stream_Contacts_1_L4 sh_slices_CompactFunc__Contact_Stream_Contacts_1_L4 (LP_slices_CompactFunc__Contact_Stream_Contacts_1_L4 g) n := by intro ps; unfold LP_slices_CompactFunc__Contact_Stream_Contacts_1_L4; split; exact .inr fun R K => (by kernel_rfl); exact .inl fun R K => rfl
theorem lf_slices_CompactFunc__Contact_Stream_Contacts_1_L4 [Fuel] : LoopFine (E_slices_CompactFunc__Contact_Stream_Contacts_1 I_slices_CompactFunc__Contact_Stream_Contacts_1) NN cb_slices_CompactFunc__Contact_Stream_Contacts_1_L4 := fine_loop sh_slices_CompactFunc__Contact_Stream_Contacts_1_L4 (LP_slices_CompactFunc__Contact_Stream_Contacts_1_L4 I_slices_CompactFunc__Contact_Stream_Contacts_1) (by kernel_rfl) ct_slices_CompactFunc__Contact_Stream_Contacts_1 (cutsL (fun _ => rfl) (.cons lf_slices_CompactFunc__Contact_Stream_Contacts_1_L9 .nil) (by kernel_rfl)) (fun ps R K => by unfold LP_slices_CompactFunc__Contact_Stream_Contacts_1_L4; split <;> (try unfold slices_CompactFunc__Contact_Stream_Contacts_1_L4) <;> rfl) (s_slices_CompactFunc__Contact_Stream_Contacts_1_L4 I_slices_CompactFunc__Contact_Stream_Contacts_1)
theorem sm_slices_CompactFunc__Contact_Stream_Contacts_1 (g : C_slices_CompactFunc__Contact_Stream_Contacts_1) : Same (SS_slices_CompactFunc__Contact_Stream_Contacts_1 (@slices_CompactFunc__Contact_Stream_Contacts_1_ g)) (abody (E_slices_CompactFunc__Contact_Stream_Contacts_1 g) Tryz.f40 code_40 6 [0] [.arr 58] g.N) := by intro args; unfold SS_slices_CompactFunc__Contact_Stream_Contacts_1; split; exact .inr fun R k => (by kernel_rfl); exact .inl fun R k => rfl
theorem ok_slices_CompactFunc__Contact_Stream_Contacts_1 [Fuel] : Ok 40 (SS_slices_CompactFunc__Contact_Stream_Contacts_1 (@slices_CompactFunc__Contact_Stream_Contacts_1 _)) := okF_of std (.cons ok_Stream_Contacts_1 .nil) ⟨rfl, rfl, by kernel_rfl, rfl, rfl⟩ (sm_slices_CompactFunc__Contact_Stream_Contacts_1 I_slices_CompactFunc__Contact_Stream_Contacts_1) (cutsL (fun _ => rfl) (.cons lf_slices_CompactFunc__Contact_Stream_Contacts_1_L9 (.cons lf_slices_CompactFunc__Contact_Stream_Contacts_1_L4 .nil)) (by kernel_rfl)) Tryz.func40 (by kernel_rfl) (by kernel_rfl)
abbrev T_Stream_Contacts : Type 1 := G_Stream → Int → {R : Type} → (List G_Contact → G_Stream → Option R) → Option R
structure C_Stream_Contacts where
  N : Nat
  Stream_Pick : T_Stream_Pick
  Stream_SomeContact : T_Stream_SomeContact
  slices_SortStableFunc__Contact_Q_ContactOrder : T_slices_SortStableFunc__Contact_Q_ContactOrder
  slices_CompactFunc__Contact_Stream_Contacts_1 : T_slices_CompactFunc__Contact_Stream_Contacts_1
def Stream_Contacts_L4 (g : C_Stream_Contacts) : Nat → Int → Int → Int → G_Stream → List G_Contact → {R : Type} → (G_Stream → List G_Contact → Option R) → Option R
  | 0, _, _, _, _, _, _, _ => none
  | n + 1, v3, v4, v5, v6, v7, _, e0 => (bif (decide (v5 < v4)) then (g.Stream_Pick v6 [0, 1, 10, 50, 1000, 40000, 1500000] (fun r12 r13 => (g.Stream_SomeContact r13 (w64 (v3 + r12)) (fun r14 r15 => (bif (decide ((v7.length + [r14].length) * 96 ≤ roomBytes')) then Stream_Contacts_L4 g n (w64 (v3 + r12)) v4 (w64 (v5 + 1)) r15 (v7 ++ [r14]) e0 else none))))) else e0 v6 v7)
def Stream_Contacts_ (g : C_Stream_Contacts) (a1 : G_Stream) (a2 : Int) {R : Type} (k0 : List G_Contact → G_Stream → Option R) : Option R :=
  (Stream_Contacts_L4 g g.N 0 a2 0 a1 [] (fun e16 e17 => (g.slices_SortStableFunc__Contact_Q_ContactOrder e17 (fun r18 => (g.slices_CompactFunc__Contact_Stream_Contacts_1 r18 (fun r19 => k0 r19 e16))))))
def I_Stream_Contacts [Fuel] : C_Stream_Contacts := ⟨NN, @Stream_Pick _, @Stream_SomeContact _, @slices_SortStableFunc__Contact_Q_ContactOrder _, @slices_CompactFunc__Contact_Stream_Contacts_1 _⟩
def Stream_Contacts [Fuel] : T_Stream_Contacts := @Stream_Contacts_ I_Stream_Contacts
def SS_Stream_Contacts (g : T_Stream_Contacts) : Spec A := fun args => match args with | [.box [.d (.sl 3 a1), .d (.int .i64 a2)], .d (.int .i64 a3)] => fun k => g ⟨a1, a2⟩ a3 (fun z0 z1 => k (.arr 58 z0) [.box [.d (.sl 3 z1.f_L), .d (.int .i64 z1.f_at)], .undef]) | _ => fun _ => none
def sh_Stream_Contacts_L4 : SSt := mkSh 26 6 [(0, .ptr 0 0), (5, .own 58 1), (6, .int .i64), (7, .int .i64), (8, .int .i64)] [(0, .box [.sl 3, .int .i64]), (1, .row 58)]
def LP_Stream_Contacts_L4 (g : C_Stream_Contacts) (n : Nat) : LPT A := fun ps => match ps with | [.d (.int .i64 p1), .d (.int .i64 p2), .d (.int .i64 p3), .d (.sl 3 p4), .d (.int .i64 p5), .d (.sl 58 p6)] => fun K => Stream_Contacts_L4 g n p1 p2 p3 ⟨p4, p5⟩ p6 (fun z0 z1 => K (.exit 0) (mkSt 26 6 [(0, .ptr 0 0), (5, .own 58 1)] [(0, some (.box [.d (.sl 3 z0.f_L), .d (.int .i64 z0.f_at)])), (1, some (.row 58 z1))])) | _ => fun _ => none
noncomputable def code_5 : Code := (Tryz.f5.body).getD .skip
noncomputable def E_Stream_Contacts (g : C_Stream_Contacts) : Env A := mkE [(7, SS_Stream_Pick g.Stream_Pick), (28, SS_Stream_SomeContact g.Stream_SomeContact), (38, SS_slices_SortStableFunc__Contact_Q_ContactOrder g.slices_SortStableFunc__Contact_Q_ContactOrder), (40, SS_slices_CompactFunc__Contact_Stream_Contacts_1 g.slices_CompactFunc__Contact_Stream_Contacts_1)] [(12, [2]), (19, [3]), (20, [4]), (25, [5])] [(4, ⟨[0, 5, 6, 7, 8], [(5, 58, 1)], [0], []⟩)] [(4, ⟨[0, 5], [], [0, 1], []⟩)] [(4, pieceOf sh_Stream_Contacts_L4 (LP_Stream_Contacts_L4 g g.N))] [] [] [] [(38, 0), (40, 0)] [0]
theorem ct_Stream_Contacts [Fuel] : NatTab (E_Stream_Contacts I_Stream_Contacts).C := ct_of (P := Tryz.prog) (T := T) (.cons ok_Stream_Pick (.cons ok_Stream_SomeContact (.cons ok_slices_SortStableFunc__Contact_Q_ContactOrder (.cons ok_slices_CompactFunc__Contact_Stream_Contacts_1 .nil)))) (by kernel_rfl)
noncomputable def cb_Stream_Contacts_L4 : Code := sub [1, 1, 1, 0, 1, 0, 0] code_5
theorem s_Stream_Contacts_L4 (g : C_Stream_Contacts) (n : Nat) : StepOk (E_Stream_Contacts g) g.N cb_Stream_Contacts_L4 sh_Stream_Contacts_L4 (LP_Stream_Contacts_L4 g) n := by intro ps; unfold LP_Stream_Contacts_L4; split; exact .inr fun R K => (by kernel_rfl); exact .inl fun R K => rfl
theorem lf_Stream_Contacts_L4 [Fuel] : LoopFine (E_Stream_Contacts I_Stream_Contacts) NN cb_Stream_Contacts_L4 := fine_loop sh_Stream_Contacts_L4 (LP_Stream_Contacts_L4 I_Stream_Contacts) (by kernel_rfl) ct_Stream_Contacts (cuts0 (fun _ => rfl) (by kernel_rfl)) (fun ps R K => by unfold LP_Stream_Contacts_L4; split <;> (try unfold Stream_Contacts_L4) <;> rfl) (s_Stream_Contacts_L4 I_Stream_Contacts)
theorem sm_Stream_Contacts (g : C_Stream_Contacts) : Same (SS_Stream_Contacts (@Stream_Contacts_ g)) (abody (E_Stream_Contacts g) Tryz.f5 code_5 6 [0] [.arr 58] g.N) := by intro args; unfold SS_Stream_Contacts; split; exact .inr fun R k => (by kernel_rfl); exact .inl fun R k => rfl
theorem ok_Stream_Contacts [Fuel] : Ok 5 (SS_Stream_Contacts (@Stream_Contacts _)) := okF_of std (.cons ok_Stream_Pick (.cons ok_Stream_SomeContact (.cons ok_slices_SortStableFunc__Contact_Q_ContactOrder (.cons ok_slices_CompactFunc__Contact_Stream_Contacts_1 .nil)))) ⟨rfl, rfl, by kernel_rfl, rfl, rfl⟩ (sm_Stream_Contacts I_Stream_Contacts) (cutsL (fun _ => rfl) (.cons lf_Stream_Contacts_L4 .nil) (by kernel_rfl)) Tryz.func5 (by kernel_rfl) (by kernel_rfl)
abbrev T_slices_Clone__Contact : Type 1 := List G_Contact → {R : Type} → (List G_Contact → Option R) → Option R
def slices_Clone__Contact [Fuel] : T_slices_Clone__Contact := @X_clone G_Contact 96
def SS_slices_Clone__Contact (g : T_slices_Clone__Contact) : Spec A := fun args => match args with | [.d (.sl 58 x1)] => fun k => g x1 (fun z => k (.arr 58 z) [.undef]) | _ => fun _ => none
theorem h1_slices_Clone__Contact [Fuel] (xs : List (A 58)) (R : Type) (k : IV A → List (IV A) → Option R) : SS_slices_Clone__Contact (@slices_Clone__Contact _) [.d (.sl 58 xs)] k = X_clone 96 xs (fun z => k (.arr 58 z) [.undef]) := by kernel_rfl
theorem h2_slices_Clone__Contact [Fuel] (args : List (IV A)) (R : Type) (k : IV A → List (IV A) → Option R) (h : ∀ xs : List (A 58), args ≠ [.d (.sl 58 xs)]) : SS_slices_Clone__Contact (@slices_Clone__Contact _) args k = none := by unfold SS_slices_Clone__Contact; split; exact absurd rfl (h _); rfl
theorem ok_slices_Clone__Contact [Fuel] : Ok 29 (SS_slices_Clone__Contact (@slices_Clone__Contact _)) := ⟨clone_fs (clone_sound (tyOk Tryz.prog) (e := 58) (size := 8) (bytes := 96) (ty := 58) (by kernel_rfl) (fun n c w => AnyE.slices_Clone_nil Tryz.clone29 n c w) (fun b off n c news w h1 h2 h3 h4 h5 => AnyE.slices_Clone Tryz.clone29 Tryz.ti58 Tryz.zv58 8 96 (by kernel_rfl) (by kernel_rfl) (by kernel_rfl) (by kernel_rfl) (by kernel_rfl) (by decide) Tryz.sizeOf58 b off n c news w h1 h2 h3 h4 h5)) h1_slices_Clone__Contact h2_slices_Clone__Contact, clone_na h1_slices_Clone__Contact h2_slices_Clone__Contact, enters_of (fn := Tryz.f29) Tryz.func29 (by kernel_rfl) (by kernel_rfl)⟩
abbrev T_kit_Outside : Type 1 := Int → Int → Int → {R : Type} → (Bool → Option R) → Option R
def kit_Outside_ (g : Nat) (a1 a2 a3 : Int) {R : Type} (k0 : Bool → Option R) : Option R :=
  (bif (decide (a1 < a2)) then k0 true else k0 (decide (a1 > a3)))
def kit_Outside [Fuel] : T_kit_Outside := @kit_Outside_ NN
def SS_kit_Outside (g : T_kit_Outside) : Spec A := fun args => match args with | [.d (.int .i64 a1), .d (.int .i64 a2), .d (.int .i64 a3)] => fun k => g a1 a2 a3 (fun z0 => k (.d (.bool z0)) [.undef, .undef, .undef]) | _ => fun _ => none
noncomputable def code_42 : Code := (Tryz.f42.body).getD .skip
noncomputable def E_kit_Outside (g : Nat) : Env A := mkE [] [] [] [] [] [] [] [] [] []
theorem sm_kit_Outside (g : Nat) : Same (SS_kit_Outside (@kit_Outside_ g)) (abody (E_kit_Outside g) Tryz.f42 code_42 0 [] [.asis] g) := by intro args; unfold SS_kit_Outside; split; exact .inr fun R k => (by kernel_rfl); exact .inl fun R k => rfl
theorem ok_kit_Outside [Fuel] : Ok 42 (SS_kit_Outside (@kit_Outside _)) := okF_of std .nil ⟨rfl, rfl, by kernel_rfl, rfl, rfl⟩ (sm_kit_Outside NN) (cuts0 (fun _ => rfl) (by kernel_rfl)) Tryz.func42 (by kernel_rfl) (by kernel_rfl)
abbrev T_kit_IsMoment : Type 1 := Int → {R : Type} → (Bool → Option R) → Option R
structure C_kit_IsMoment where
  N : Nat
  kit_Outside : T_kit_Outside
def kit_IsMoment_ (g : C_kit_IsMoment) (a1 : Int) {R : Type} (k0 : Bool → Option R) : Option R :=
  (g.kit_Outside a1 0 345686399999 (fun r2 => k0 (!r2)))
def I_kit_IsMoment [Fuel] : C_kit_IsMoment := ⟨NN, @kit_Outside _⟩
def kit_IsMoment [Fuel] : T_kit_IsMoment := @kit_IsMoment_ I_kit_IsMoment
def SS_kit_IsMoment (g : T_kit_IsMoment) : Spec A := fun args => match args with | [.d (.int .i64 a1)] => fun k => g a1 (fun z0 => k (.d (.bool z0)) [.undef]) | _ => fun _ => none
noncomputable def code_64 : Code := (Tryz.f64.body).getD .skip
noncomputable def E_kit_IsMoment (g : C_kit_IsMoment) : Env A := mkE [(42, SS_kit_Outside g.kit_Outside)] [] [] [] [] [] [] [] [] []
theorem sm_kit_IsMoment (g : C_kit_IsMoment) : Same (SS_kit_IsMoment (@kit_IsMoment_ g)) (abody (E_kit_IsMoment g) Tryz.f64 code_64 0 [] [.asis] g.N) := by intro args; unfold SS_kit_IsMoment; split; exact .inr fun R k => (by kernel_rfl); exact .inl fun R k => rfl
theorem ok_kit_IsMoment [Fuel] : Ok 64 (SS_kit_IsMoment (@kit_IsMoment _)) := okF_of std (.cons ok_kit_Outside .nil) ⟨rfl, rfl, by kernel_rfl, rfl, rfl⟩ (sm_kit_IsMoment I_kit_IsMoment) (cuts0 (fun _ => rfl) (by kernel_rfl)) Tryz.func64 (by kernel_rfl) (by kernel_rfl)
abbrev T_kit_IsMode : Type 1 := Int → {R : Type} → (Bool → Option R) → Option R
structure C_kit_IsMode where
  N : Nat
  kit_Outside : T_kit_Outside
def kit_IsMode_ (g : C_kit_IsMode) (a1 : Int) {R : Type} (k0 : Bool → Option R) : Option R :=
  (g.kit_Outside a1 1 3 (fun r2 => k0 (!r2)))
def I_kit_IsMode [Fuel] : C_kit_IsMode := ⟨NN, @kit_Outside _⟩
def kit_IsMode [Fuel] : T_kit_IsMode := @kit_IsMode_ I_kit_IsMode
def SS_kit_IsMode (g : T_kit_IsMode) : Spec A := fun args => match args with | [.d (.int .i64 a1)] => fun k => g a1 (fun z0 => k (.d (.bool z0)) [.undef]) | _ => fun _ => none
noncomputable def code_65 : Code := (Tryz.f65.body).getD .skip
noncomputable def E_kit_IsMode (g : C_kit_IsMode) : Env A := mkE [(42, SS_kit_Outside g.kit_Outside)] [] [] [] [] [] [] [] [] []
theorem sm_kit_IsMode (g : C_kit_IsMode) : Same (SS_kit_IsMode (@kit_IsMode_ g)) (abody (E_kit_IsMode g) Tryz.f65 code_65 0 [] [.asis] g.N) := by intro args; unfold SS_kit_IsMode; split; exact .inr fun R k => (by kernel_rfl); exact .inl fun R k => rfl
theorem ok_kit_IsMode [Fuel] : Ok 65 (SS_kit_IsMode (@kit_IsMode _)) := okF_of std (.cons ok_kit_Outside .nil) ⟨rfl, rfl, by kernel_rfl, rfl, rfl⟩ (sm_kit_IsMode I_kit_IsMode) (cuts0 (fun _ => rfl) (by kernel_rfl)) Tryz.func65 (by kernel_rfl) (by kernel_rfl)
abbrev T_strings_IndexByte : Type 1 := List UInt8 → Int → {R : Type} → (Int → Option R) → Option R
def strings_IndexByte [Fuel] : T_strings_IndexByte := @X_ixb
def SS_strings_IndexByte (g : T_strings_IndexByte) : Spec A := SSX_ixb g
theorem ok_strings_IndexByte [Fuel] : Ok 82 (SS_strings_IndexByte (@strings_IndexByte _)) := ⟨ssx_ixb_sound (ixb_sound (Any.strings_IndexByte Tryz.lays137)), ssx_ixb_nat, enters_of (fn := Tryz.f82) Tryz.func82 (by kernel_rfl) (by kernel_rfl)⟩
abbrev T_strings_Trim : Type 1 := List UInt8 → List UInt8 → {R : Type} → (List UInt8 → Option R) → Option R
def strings_Trim [Fuel] : T_strings_Trim := @X_trim
def SS_strings_Trim (g : T_strings_Trim) : Spec A := SSX_trim g
theorem ok_strings_Trim [Fuel] : Ok 83 (SS_strings_Trim (@strings_Trim _)) := ⟨ssx_trim_sound (trim_sound (fun s cs w h1 h2 h3 => Any.strings_Trim_laid Tryz.lays160 (by kernel_rfl) s cs w h1 h2 h3)), ssx_trim_nat, enters_of (fn := Tryz.f83) Tryz.func83 (by kernel_rfl) (by kernel_rfl)⟩
abbrev T_kit_IsKey : Type 1 := List UInt8 → {R : Type} → (Bool → Option R) → Option R
structure C_kit_IsKey where
  N : Nat
  strings_IndexByte : T_strings_IndexByte
  strings_Trim : T_strings_Trim
def kit_IsKey_ (g : C_kit_IsKey) (a1 : List UInt8) {R : Type} (k0 : Bool → Option R) : Option R :=
  (bif (!(a1 == [])) then (bif (decide ((a1.length : Int) ≤ 40)) then (at_ a1 0 fun x2 => (g.strings_IndexByte [97, 98, 99, 100, 101, 102, 103, 104, 105, 106, 107, 108, 109, 110, 111, 112, 113, 114, 115, 116, 117, 118, 119, 120, 121, 122] (x2.toNat : Int) (fun r3 => (bif (decide (r3 ≥ 0)) then (g.strings_Trim a1 [97, 98, 99, 100, 101, 102, 103, 104, 105, 106, 107, 108, 109, 110, 111, 112, 113, 114, 115, 116, 117, 118, 119, 120, 121, 122, 48, 49, 50, 51, 52, 53, 54, 55, 56, 57, 45, 95] (fun r4 => k0 (r4 == []))) else k0 false)))) else k0 false) else k0 false)
def I_kit_IsKey [Fuel] : C_kit_IsKey := ⟨NN, @strings_IndexByte _, @strings_Trim _⟩
def kit_IsKey [Fuel] : T_kit_IsKey := @kit_IsKey_ I_kit_IsKey
def SS_kit_IsKey (g : T_kit_IsKey) : Spec A := fun args => match args with | [.d (.str a1)] => fun k => g a1 (fun z0 => k (.d (.bool z0)) [.undef]) | _ => fun _ => none
noncomputable def code_66 : Code := (Tryz.f66.body).getD .skip
noncomputable def E_kit_IsKey (g : C_kit_IsKey) : Env A := mkE [(82, SS_strings_IndexByte g.strings_IndexByte), (83, SS_strings_Trim g.strings_Trim)] [] [] [] [] [] [] [] [] []
theorem sm_kit_IsKey (g : C_kit_IsKey) : Same (SS_kit_IsKey (@kit_IsKey_ g)) (abody (E_kit_IsKey g) Tryz.f66 code_66 0 [] [.asis] g.N) := by intro args; unfold SS_kit_IsKey; split; exact .inr fun R k => (by kernel_rfl); exact .inl fun R k => rfl
theorem ok_kit_IsKey [Fuel] : Ok 66 (SS_kit_IsKey (@kit_IsKey _)) := okF_of std (.cons ok_strings_IndexByte (.cons ok_strings_Trim .nil)) ⟨rfl, rfl, by kernel_rfl, rfl, rfl⟩ (sm_kit_IsKey I_kit_IsKey) (cuts0 (fun _ => rfl) (by kernel_rfl)) Tryz.func66 (by kernel_rfl) (by kernel_rfl)
abbrev T_call_isLetter : Type 1 := Int → {R : Type} → (Bool → Option R) → Option R
def call_isLetter_ (g : Nat) (a1 : Int) {R : Type} (k0 : Bool → Option R) : Option R :=
  (bif (decide (a1 ≥ 97)) then k0 (decide (a1 ≤ 122)) else k0 false)
def call_isLetter [Fuel] : T_call_isLetter := @call_isLetter_ NN
def SS_call_isLetter (g : T_call_isLetter) : Spec A := fun args => match args with | [.d (.int .u8 a1)] => fun k => g a1 (fun z0 => k (.d (.bool z0)) [.undef]) | _ => fun _ => none
noncomputable def code_129 : Code := (Tryz.f129.body).getD .skip
noncomputable def E_call_isLetter (g : Nat) : Env A := mkE [] [] [] [] [] [] [] [] [] []
theorem sm_call_isLetter (g : Nat) : Same (SS_call_isLetter (@call_isLetter_ g)) (abody (E_call_isLetter g) Tryz.f129 code_129 0 [] [.asis] g) := by intro args; unfold SS_call_isLetter; split; exact .inr fun R k => (by kernel_rfl); exact .inl fun R k => rfl
theorem ok_call_isLetter [Fuel] : Ok 129 (SS_call_isLetter (@call_isLetter _)) := okF_of std .nil ⟨rfl, rfl, by kernel_rfl, rfl, rfl⟩ (sm_call_isLetter NN) (cuts0 (fun _ => rfl) (by kernel_rfl)) Tryz.func129 (by kernel_rfl) (by kernel_rfl)
abbrev T_call_isDigit : Type 1 := Int → {R : Type} → (Bool → Option R) → Option R
def call_isDigit_ (g : Nat) (a1 : Int) {R : Type} (k0 : Bool → Option R) : Option R :=
  (bif (decide (a1 ≥ 48)) then k0 (decide (a1 ≤ 57)) else k0 false)
def call_isDigit [Fuel] : T_call_isDigit := @call_isDigit_ NN
def SS_call_isDigit (g : T_call_isDigit) : Spec A := fun args => match args with | [.d (.int .u8 a1)] => fun k => g a1 (fun z0 => k (.d (.bool z0)) [.undef]) | _ => fun _ => none
noncomputable def code_121 : Code := (Tryz.f121.body).getD .skip
noncomputable def E_call_isDigit (g : Nat) : Env A := mkE [] [] [] [] [] [] [] [] [] []
theorem sm_call_isDigit (g : Nat) : Same (SS_call_isDigit (@call_isDigit_ g)) (abody (E_call_isDigit g) Tryz.f121 code_121 0 [] [.asis] g) := by intro args; unfold SS_call_isDigit; split; exact .inr fun R k => (by kernel_rfl); exact .inl fun R k => rfl
theorem ok_call_isDigit [Fuel] : Ok 121 (SS_call_isDigit (@call_isDigit _)) := okF_of std .nil ⟨rfl, rfl, by kernel_rfl, rfl, rfl⟩ (sm_call_isDigit NN) (cuts0 (fun _ => rfl) (by kernel_rfl)) Tryz.func121 (by kernel_rfl) (by kernel_rfl)
abbrev T_call_isPlain : Type 1 := List UInt8 → {R : Type} → (Int → Bool → Option R) → Option R
structure C_call_isPlain where
  N : Nat
  call_isDigit : T_call_isDigit
  call_isLetter : T_call_isLetter
def call_isPlain_L2 (g : C_call_isPlain) : Nat → List UInt8 → Int → Int → Int → {R : Type} → (Int → Bool → Option R) → (Int → Option R) → Option R
  | 0, _, _, _, _, _, _, _ => none
  | n + 1, v2, v3, v4, v5, _, e0, e1 => (bif (decide (v5 < v4)) then (get_ v2 v5 fun x10 => (g.call_isLetter (x10.toNat : Int) (fun r11 => (bif r11 then call_isPlain_L2 g n v2 (w64 (v3 + 1)) v4 (w64 (v5 + 1)) e0 e1 else (get_ v2 v5 fun x12 => (g.call_isDigit (x12.toNat : Int) (fun r13 => (bif (!r13) then e0 0 false else call_isPlain_L2 g n v2 v3 v4 (w64 (v5 + 1)) e0 e1)))))))) else e1 v3)
def call_isPlain_ (g : C_call_isPlain) (a1 : List UInt8) {R : Type} (k0 : Int → Bool → Option R) : Option R :=
  (call_isPlain_L2 g g.N a1 0 (a1.length : Int) 0 (fun e14 e15 => k0 e14 e15) (fun e16 => k0 e16 true))
def I_call_isPlain [Fuel] : C_call_isPlain := ⟨NN, @call_isDigit _, @call_isLetter _⟩
def call_isPlain [Fuel] : T_call_isPlain := @call_isPlain_ I_call_isPlain
def SS_call_isPlain (g : T_call_isPlain) : Spec A := fun args => match args with | [.d (.str a1)] => fun k => g a1 (fun z0 z1 => k (.tup [.d (.int .i64 z0), .d (.bool z1)]) [.undef]) | _ => fun _ => none
def sh_call_isPlain_L2 : SSt := mkSh 25 0 [(0, .str), (2, .int .i64), (6, .int .i64), (7, .int .i64)] []
def LP_call_isPlain_L2 (g : C_call_isPlain) (n : Nat) : LPT A := fun ps => match ps with | [.d (.str p1), .d (.int .i64 p2), .d (.int .i64 p3), .d (.int .i64 p4)] => fun K => call_isPlain_L2 g n p1 p2 p3 p4 (fun z0 z1 => K .ret (mkSt 25 0 [(2, .d (.int .i64 z0)), (3, .d (.bool z1))] [])) (fun z0 => K (.exit 0) (mkSt 25 0 [(2, .d (.int .i64 z0))] [])) | _ => fun _ => none
noncomputable def code_120 : Code := (Tryz.f120.body).getD .skip
noncomputable def E_call_isPlain (g : C_call_isPlain) : Env A := mkE [(121, SS_call_isDigit g.call_isDigit), (129, SS_call_isLetter g.call_isLetter)] [] [(2, ⟨[0, 2, 6, 7], [], [], []⟩)] [(2, ⟨[2, 3], [], [], []⟩)] [(2, pieceOf sh_call_isPlain_L2 (LP_call_isPlain_L2 g g.N))] [] [] [] [] []
theorem ct_call_isPlain [Fuel] : NatTab (E_call_isPlain I_call_isPlain).C := ct_of (P := Tryz.prog) (T := T) (.cons ok_call_isDigit (.cons ok_call_isLetter .nil)) (by kernel_rfl)
noncomputable def cb_call_isPlain_L2 : Code := sub [1, 0, 1, 0, 0] code_120
theorem s_call_isPlain_L2 (g : C_call_isPlain) (n : Nat) : StepOk (E_call_isPlain g) g.N cb_call_isPlain_L2 sh_call_isPlain_L2 (LP_call_isPlain_L2 g) n := by intro ps; unfold LP_call_isPlain_L2; split; exact .inr fun R K => (by kernel_rfl); exact .inl fun R K => rfl
theorem lf_call_isPlain_L2 [Fuel] : LoopFine (E_call_isPlain I_call_isPlain) NN cb_call_isPlain_L2 := fine_loop sh_call_isPlain_L2 (LP_call_isPlain_L2 I_call_isPlain) (by kernel_rfl) ct_call_isPlain (cuts0 (fun _ => rfl) (by kernel_rfl)) (fun ps R K => by unfold LP_call_isPlain_L2; split <;> (try unfold call_isPlain_L2) <;> rfl) (s_call_isPlain_L2 I_call_isPlain)
theorem sm_call_isPlain (g : C_call_isPlain) : Same (SS_call_isPlain (@call_isPlain_ g)) (abody (E_call_isPlain g) Tryz.f120 code_120 0 [] [.asis, .asis] g.N) := by intro args; unfold SS_call_isPlain; split; exact .inr fun R k => (by kernel_rfl); exact .inl fun R k => rfl
theorem ok_call_isPlain [Fuel] : Ok 120 (SS_call_isPlain (@call_isPlain _)) := okF_of std (.cons ok_call_isDigit (.cons ok_call_isLetter .nil)) ⟨rfl, rfl, by kernel_rfl, rfl, rfl⟩ (sm_call_isPlain I_call_isPlain) (cutsL (fun _ => rfl) (.cons lf_call_isPlain_L2 .nil) (by kernel_rfl)) Tryz.func120 (by kernel_rfl) (by kernel_rfl)
abbrev T_strings_IndexRune : Type 1 := List UInt8 → Int → {R : Type} → (Int → Option R) → Option R
def strings_IndexRune [Fuel] : T_strings_IndexRune := @X_ixr
def SS_strings_IndexRune (g : T_strings_IndexRune) : Spec A := SSX_ixr g
theorem ok_strings_IndexRune [Fuel] : Ok 124 (SS_strings_IndexRune (@strings_IndexRune _)) := ⟨ssx_ixr_sound (ixr_sound (fun s r w h0 h1 => Any.strings_IndexRune_ascii Tryz.lays152 s r w h0 h1)), ssx_ixr_nat, enters_of (fn := Tryz.f124) Tryz.func124 (by kernel_rfl) (by kernel_rfl)⟩
abbrev T_strings_shouldUseASCIISet : Type 1 := Int → {R : Type} → (Bool → Option R) → Option R
def strings_shouldUseASCIISet_ (g : Nat) (a1 : Int) {R : Type} (k0 : Bool → Option R) : Option R :=
  k0 (decide (a1 > 8))
def strings_shouldUseASCIISet [Fuel] : T_strings_shouldUseASCIISet := @strings_shouldUseASCIISet_ NN
def SS_strings_shouldUseASCIISet (g : T_strings_shouldUseASCIISet) : Spec A := fun args => match args with | [.d (.int .i64 a1)] => fun k => g a1 (fun z0 => k (.d (.bool z0)) [.undef]) | _ => fun _ => none
noncomputable def code_125 : Code := (Tryz.f125.body).getD .skip
noncomputable def E_strings_shouldUseASCIISet (g : Nat) : Env A := mkE [] [] [] [] [] [] [] [] [] []
theorem sm_strings_shouldUseASCIISet (g : Nat) : Same (SS_strings_shouldUseASCIISet (@strings_shouldUseASCIISet_ g)) (abody (E_strings_shouldUseASCIISet g) Tryz.f125 code_125 0 [] [.asis] g) := by intro args; unfold SS_strings_shouldUseASCIISet; split; exact .inr fun R k => (by kernel_rfl); exact .inl fun R k => rfl
theorem ok_strings_shouldUseASCIISet [Fuel] : Ok 125 (SS_strings_shouldUseASCIISet (@strings_shouldUseASCIISet _)) := okF_of std .nil ⟨rfl, rfl, by kernel_rfl, rfl, rfl⟩ (sm_strings_shouldUseASCIISet NN) (cuts0 (fun _ => rfl) (by kernel_rfl)) Tryz.func125 (by kernel_rfl) (by kernel_rfl)
abbrev T_strings_makeASCIISet : Type 1 := List UInt8 → {R : Type} → Option R
def strings_makeASCIISet_ (g : Nat) (a1 : List UInt8) {R : Type}  : Option R :=
  none
def strings_makeASCIISet [Fuel] : T_strings_makeASCIISet := @strings_makeASCIISet_ NN
def SS_strings_makeASCIISet (g : T_strings_makeASCIISet) : Spec A := fun args => match args with | [.d (.str a1)] => fun k => g a1 | _ => fun _ => none
noncomputable def code_98 : Code := (Tryz.f98.body).getD .skip
noncomputable def E_strings_makeASCIISet (g : Nat) : Env A := mkE [] [] [] [] [] [] [] [] [] []
noncomputable def cb_strings_makeASCIISet_L2 : Code := sub [1, 0, 1, 0, 0] code_98
theorem lf_strings_makeASCIISet_L2 [Fuel] : LoopFine (E_strings_makeASCIISet NN) NN cb_strings_makeASCIISet_L2 := no_loop (by kernel_rfl)
theorem sm_strings_makeASCIISet (g : Nat) : Same (SS_strings_makeASCIISet (@strings_makeASCIISet_ g)) (abody (E_strings_makeASCIISet g) Tryz.f98 code_98 0 [] [.asis, .asis] g) := by intro args; unfold SS_strings_makeASCIISet; split; exact .inr fun R k => (by kernel_rfl); exact .inl fun R k => rfl
theorem ok_strings_makeASCIISet [Fuel] : Ok 98 (SS_strings_makeASCIISet (@strings_makeASCIISet _)) := okF_of std .nil ⟨rfl, rfl, by kernel_rfl, rfl, rfl⟩ (sm_strings_makeASCIISet NN) (cutsL (fun _ => rfl) (.cons lf_strings_makeASCIISet_L2 .nil) (by kernel_rfl)) Tryz.func98 (by kernel_rfl) (by kernel_rfl)
abbrev T_utf8_RuneStart : Type 1 := Int → {R : Type} → Option R
def utf8_RuneStart_ (g : Nat) (a1 : Int) {R : Type}  : Option R :=
  none
def utf8_RuneStart [Fuel] : T_utf8_RuneStart := @utf8_RuneStart_ NN
def SS_utf8_RuneStart (g : T_utf8_RuneStart) : Spec A := fun args => match args with | [.d (.int .u8 a1)] => fun k => g a1 | _ => fun _ => none
noncomputable def code_128 : Code := (Tryz.f128.body).getD .skip
noncomputable def E_utf8_RuneStart (g : Nat) : Env A := mkE [] [] [] [] [] [] [] [] [] []
theorem sm_utf8_RuneStart (g : Nat) : Same (SS_utf8_RuneStart (@utf8_RuneStart_ g)) (abody (E_utf8_RuneStart g) Tryz.f128 code_128 0 [] [.asis] g) := by intro args; unfold SS_utf8_RuneStart; split; exact .inr fun R k => (by kernel_rfl); exact .inl fun R k => rfl
theorem ok_utf8_RuneStart [Fuel] : Ok 128 (SS_utf8_RuneStart (@utf8_RuneStart _)) := okF_of std .nil ⟨rfl, rfl, by kernel_rfl, rfl, rfl⟩ (sm_utf8_RuneStart NN) (cuts0 (fun _ => rfl) (by kernel_rfl)) Tryz.func128 (by kernel_rfl) (by kernel_rfl)
abbrev T_utf8_decodeRuneInStringSlow : Type 1 := List UInt8 → {R : Type} → (Int → Int → Option R) → Option R
def utf8_decodeRuneInStringSlow_ (g : Nat) (a1 : List UInt8) {R : Type} (k0 : Int → Int → Option R) : Option R :=
  (bif (decide ((a1.length : Int) < 1)) then k0 65533 0 else (at_ a1 0 fun x2 => none))
def utf8_decodeRuneInStringSlow [Fuel] : T_utf8_decodeRuneInStringSlow := @utf8_decodeRuneInStringSlow_ NN
def SS_utf8_decodeRuneInStringSlow (g : T_utf8_decodeRuneInStringSlow) : Spec A := fun args => match args with | [.d (.str a1)] => fun k => g a1 (fun z0 z1 => k (.tup [.d (.int .i32 z0), .d (.int .i64 z1)]) [.undef]) | _ => fun _ => none
noncomputable def code_127 : Code := (Tryz.f127.body).getD .skip
noncomputable def E_utf8_decodeRuneInStringSlow (g : Nat) : Env A := mkE [] [] [] [] [] [] [] [] [] []
theorem sm_utf8_decodeRuneInStringSlow (g : Nat) : Same (SS_utf8_decodeRuneInStringSlow (@utf8_decodeRuneInStringSlow_ g)) (abody (E_utf8_decodeRuneInStringSlow g) Tryz.f127 code_127 0 [] [.asis, .asis] g) := by intro args; unfold SS_utf8_decodeRuneInStringSlow; split; exact .inr fun R k => (by kernel_rfl); exact .inl fun R k => rfl
theorem ok_utf8_decodeRuneInStringSlow [Fuel] : Ok 127 (SS_utf8_decodeRuneInStringSlow (@utf8_decodeRuneInStringSlow _)) := okF_of std .nil ⟨rfl, rfl, by kernel_rfl, rfl, rfl⟩ (sm_utf8_decodeRuneInStringSlow NN) (cuts0 (fun _ => rfl) (by kernel_rfl)) Tryz.func127 (by kernel_rfl) (by kernel_rfl)
abbrev T_utf8_DecodeRuneInString : Type 1 := List UInt8 → {R : Type} → (Int → Int → Option R) → Option R
structure C_utf8_DecodeRuneInString where
  N : Nat
  utf8_decodeRuneInStringSlow : T_utf8_decodeRuneInStringSlow
def utf8_DecodeRuneInString_ (g : C_utf8_DecodeRuneInString) (a1 : List UInt8) {R : Type} (k0 : Int → Int → Option R) : Option R :=
  (bif (!(a1 == [])) then (at_ a1 0 fun x2 => (bif (decide ((x2.toNat : Int) < 128)) then (at_ a1 0 fun x3 => k0 (IntKind.i32.wrap (x3.toNat : Int)) 1) else (g.utf8_decodeRuneInStringSlow a1 (fun r4 r5 => k0 r4 r5)))) else (g.utf8_decodeRuneInStringSlow a1 (fun r6 r7 => k0 r6 r7)))
def I_utf8_DecodeRuneInString [Fuel] : C_utf8_DecodeRuneInString := ⟨NN, @utf8_decodeRuneInStringSlow _⟩
def utf8_DecodeRuneInString [Fuel] : T_utf8_DecodeRuneInString := @utf8_DecodeRuneInString_ I_utf8_DecodeRuneInString
def SS_utf8_DecodeRuneInString (g : T_utf8_DecodeRuneInString) : Spec A := fun args => match args with | [.d (.str a1)] => fun k => g a1 (fun z0 z1 => k (.tup [.d (.int .i32 z0), .d (.int .i64 z1)]) [.undef]) | _ => fun _ => none
noncomputable def code_116 : Code := (Tryz.f116.body).getD .skip
noncomputable def E_utf8_DecodeRuneInString (g : C_utf8_DecodeRuneInString) : Env A := mkE [(127, SS_utf8_decodeRuneInStringSlow g.utf8_decodeRuneInStringSlow)] [] [] [] [] [] [] [] [] []
theorem sm_utf8_DecodeRuneInString (g : C_utf8_DecodeRuneInString) : Same (SS_utf8_DecodeRuneInString (@utf8_DecodeRuneInString_ g)) (abody (E_utf8_DecodeRuneInString g) Tryz.f116 code_116 0 [] [.asis, .asis] g.N) := by intro args; unfold SS_utf8_DecodeRuneInString; split; exact .inr fun R k => (by kernel_rfl); exact .inl fun R k => rfl
theorem ok_utf8_DecodeRuneInString [Fuel] : Ok 116 (SS_utf8_DecodeRuneInString (@utf8_DecodeRuneInString _)) := okF_of std (.cons ok_utf8_decodeRuneInStringSlow .nil) ⟨rfl, rfl, by kernel_rfl, rfl, rfl⟩ (sm_utf8_DecodeRuneInString I_utf8_DecodeRuneInString) (cuts0 (fun _ => rfl) (by kernel_rfl)) Tryz.func116 (by kernel_rfl) (by kernel_rfl)
abbrev T_utf8_DecodeLastRuneInString : Type 1 := List UInt8 → {R : Type} → (Int → Int → Option R) → Option R
structure C_utf8_DecodeLastRuneInString where
  N : Nat
  utf8_DecodeRuneInString : T_utf8_DecodeRuneInString
  utf8_RuneStart : T_utf8_RuneStart
def utf8_DecodeLastRuneInString_L10 (g : C_utf8_DecodeLastRuneInString) : Nat → List UInt8 → Int → Int → Int → {R : Type} → (List UInt8 → Int → Int → Option R) → Option R
  | 0, _, _, _, _, _, _ => none
  | n + 1, v3, v4, v5, v6, _, e0 => (bif (decide (v5 ≥ v6)) then (get_ v3 v5 fun x8 => (g.utf8_RuneStart (x8.toNat : Int))) else e0 v3 v4 v5)
def utf8_DecodeLastRuneInString_ (g : C_utf8_DecodeLastRuneInString) (a1 : List UInt8) {R : Type} (k0 : Int → Int → Option R) : Option R :=
  (bif ((a1.length : Int) == 0) then k0 65533 0 else (get_ a1 (w64 ((a1.length : Int) - 1)) fun x2 => (bif (decide ((IntKind.i32.wrap (x2.toNat : Int)) < 128)) then k0 (IntKind.i32.wrap (x2.toNat : Int)) 1 else (utf8_DecodeLastRuneInString_L10 g g.N a1 (a1.length : Int) (w64 ((w64 ((a1.length : Int) - 1)) - 1)) (if 0 > (w64 ((a1.length : Int) - 4)) then 0 else (w64 ((a1.length : Int) - 4))) (fun e9 e10 e11 => (bif (decide (e11 < 0)) then (bif (decide (0 ≤ 0) && (decide (0 ≤ e10) && decide (e10 ≤ (e9.length : Int)))) then (g.utf8_DecodeRuneInString ((e9.take (e10 : Int).toNat).drop (0 : Int).toNat) (fun r12 r13 => (bif ((w64 (0 + r13)) != e10) then k0 65533 1 else k0 r12 r13))) else none) else (bif (decide (0 ≤ e11) && (decide (e11 ≤ e10) && decide (e10 ≤ (e9.length : Int)))) then (g.utf8_DecodeRuneInString ((e9.take (e10 : Int).toNat).drop (e11 : Int).toNat) (fun r14 r15 => (bif ((w64 (e11 + r15)) != e10) then k0 65533 1 else k0 r14 r15))) else none)))))))
def I_utf8_DecodeLastRuneInString [Fuel] : C_utf8_DecodeLastRuneInString := ⟨NN, @utf8_DecodeRuneInString _, @utf8_RuneStart _⟩
def utf8_DecodeLastRuneInString [Fuel] : T_utf8_DecodeLastRuneInString := @utf8_DecodeLastRuneInString_ I_utf8_DecodeLastRuneInString
def SS_utf8_DecodeLastRuneInString (g : T_utf8_DecodeLastRuneInString) : Spec A := fun args => match args with | [.d (.str a1)] => fun k => g a1 (fun z0 z1 => k (.tup [.d (.int .i32 z0), .d (.int .i64 z1)]) [.undef]) | _ => fun _ => none
def sh_utf8_DecodeLastRuneInString_L10 : SSt := mkSh 51 0 [(0, .str), (4, .int .i64), (5, .int .i64), (6, .int .i64)] []
def LP_utf8_DecodeLastRuneInString_L10 (g : C_utf8_DecodeLastRuneInString) (n : Nat) : LPT A := fun ps => match ps with | [.d (.str p1), .d (.int .i64 p2), .d (.int .i64 p3), .d (.int .i64 p4)] => fun K => utf8_DecodeLastRuneInString_L10 g n p1 p2 p3 p4 (fun z0 z1 z2 => K (.exit 0) (mkSt 51 0 [(0, .d (.str z0)), (4, .d (.int .i64 z1)), (5, .d (.int .i64 z2))] [])) | _ => fun _ => none
noncomputable def code_118 : Code := (Tryz.f118.body).getD .skip
noncomputable def E_utf8_DecodeLastRuneInString (g : C_utf8_DecodeLastRuneInString) : Env A := mkE [(116, SS_utf8_DecodeRuneInString g.utf8_DecodeRuneInString), (128, SS_utf8_RuneStart g.utf8_RuneStart)] [] [(10, ⟨[0, 4, 5, 6], [], [], []⟩)] [(10, ⟨[0, 4, 5], [], [], []⟩)] [(10, pieceOf sh_utf8_DecodeLastRuneInString_L10 (LP_utf8_DecodeLastRuneInString_L10 g g.N))] [] [] [] [] []
theorem ct_utf8_DecodeLastRuneInString [Fuel] : NatTab (E_utf8_DecodeLastRuneInString I_utf8_DecodeLastRuneInString).C := ct_of (P := Tryz.prog) (T := T) (.cons ok_utf8_DecodeRuneInString (.cons ok_utf8_RuneStart .nil)) (by kernel_rfl)
noncomputable def cb_utf8_DecodeLastRuneInString_L10 : Code := sub [1, 1, 1, 1, 1, 1, 1, 0, 1, 0, 0] code_118
theorem s_utf8_DecodeLastRuneInString_L10 (g : C_utf8_DecodeLastRuneInString) (n : Nat) : StepOk (E_utf8_DecodeLastRuneInString g) g.N cb_utf8_DecodeLastRuneInString_L10 sh_utf8_DecodeLastRuneInString_L10 (LP_utf8_DecodeLastRuneInString_L10 g) n := by intro ps; unfold LP_utf8_DecodeLastRuneInString_L10; split; exact .inr fun R K => (by kernel_rfl); exact .inl fun R K => rfl
theorem lf_utf8_DecodeLastRuneInString_L10 [Fuel] : LoopFine (E_utf8_DecodeLastRuneInString I_utf8_DecodeLastRuneInString) NN cb_utf8_DecodeLastRuneInString_L10 := fine_loop sh_utf8_DecodeLastRuneInString_L10 (LP_utf8_DecodeLastRuneInString_L10 I_utf8_DecodeLastRuneInString) (by kernel_rfl) ct_utf8_DecodeLastRuneInString (cuts0 (fun _ => rfl) (by kernel_rfl)) (fun ps R K => by unfold LP_utf8_DecodeLastRuneInString_L10; split <;> (try unfold utf8_DecodeLastRuneInString_L10) <;> rfl) (s_utf8_DecodeLastRuneInString_L10 I_utf8_DecodeLastRuneInString)
theorem sm_utf8_DecodeLastRuneInString (g : C_utf8_DecodeLastRuneInString) : Same (SS_utf8_DecodeLastRuneInString (@utf8_DecodeLastRuneInString_ g)) (abody (E_utf8_DecodeLastRuneInString g) Tryz.f118 code_118 0 [] [.asis, .asis] g.N) := by intro args; unfold SS_utf8_DecodeLastRuneInString; split; exact .inr fun R k => (by kernel_rfl); exact .inl fun R k => rfl
theorem ok_utf8_DecodeLastRuneInString [Fuel] : Ok 118 (SS_utf8_DecodeLastRuneInString (@utf8_DecodeLastRuneInString _)) := okF_of std (.cons ok_utf8_DecodeRuneInString (.cons ok_utf8_RuneStart .nil)) ⟨rfl, rfl, by kernel_rfl, rfl, rfl⟩ (sm_utf8_DecodeLastRuneInString I_utf8_DecodeLastRuneInString) (cutsL (fun _ => rfl) (.cons lf_utf8_DecodeLastRuneInString_L10 .nil) (by kernel_rfl)) Tryz.func118 (by kernel_rfl) (by kernel_rfl)
end Go.Am
