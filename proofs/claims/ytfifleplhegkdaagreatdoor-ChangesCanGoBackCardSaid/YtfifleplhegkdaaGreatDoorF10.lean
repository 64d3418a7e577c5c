/- The functions of the program as Lean functions, each shown to be what the code computes, part 10. No condition: lemmas for the claim. -/
import Derived.Test.YtfifleplhegkdaaGreatDoorF0
import Derived.Test.YtfifleplhegkdaaGreatDoorFSh
import Derived.Test.YtfifleplhegkdaaGreatDoorF1
import Derived.Test.YtfifleplhegkdaaGreatDoorF3
import Derived.Test.YtfifleplhegkdaaGreatDoorF4
import Derived.Test.YtfifleplhegkdaaGreatDoorF5
import Derived.Test.YtfifleplhegkdaaGreatDoorF6
import Derived.Test.YtfifleplhegkdaaGreatDoorF8
import Derived.Test.YtfifleplhegkdaaGreatDoorF9
set_option linter.unusedVariables false
set_option maxRecDepth 100000
namespace Go.Am
open Go Go.Proofs
abbrev T_log_Changed : Type 1 := List G_Contact → List G_Change → {R : Type} → (List G_Contact → List Int → Int → Option R) → Option R
structure C_log_Changed where
 N : Nat
 log_CheckLog : T_log_CheckLog
 log_CheckChanges : T_log_CheckChanges
 log_key : T_log_key
 log_change : T_log_change
 slices_SortFunc__Contact_log_Compare : T_slices_SortFunc__Contact_log_Compare
def log_Changed_L9 (g : C_log_Changed) : Nat → List G_Change → List G_Contact → Int → Int → List (G_Contact × G_Contact) → {R : Type} → (List G_Change → List (G_Contact × G_Contact) → Option R) → Option R
 | 0, _, _, _, _, _, _, _ => none
 | n + 1, v5, v6, v7, v8, v9, _, e0 => (bif (decide (v8 < v7)) then (get_ v6 v8 fun x12 => (g.log_key x12 (fun r13 => log_Changed_L9 g n v5 v6 v7 (w64 (v8 + 1)) (mset_Contact_Contact r13 x12 v9) e0))) else e0 v5 v9)
def log_Changed_L15 (g : C_log_Changed) : Nat → List G_Change → Int → Int → List (G_Contact × G_Contact) → List Int → {R : Type} → (List (G_Contact × G_Contact) → List Int → Option R) → Option R
 | 0, _, _, _, _, _, _, _ => none
 | n + 1, v16, v17, v18, v19, v20, _, e0 => (bif (decide (v18 < v17)) then (get_ v16 v18 fun x24 => (g.log_change v19 x24 (fun r25 r26 => (bif (!r25) then (bif (decide ((v20.length + [v18].length) * 8 ≤ roomBytes')) then log_Changed_L15 g n v16 v17 (w64 (v18 + 1)) r26 (v20 ++ [v18]) e0 else none) else log_Changed_L15 g n v16 v17 (w64 (v18 + 1)) r26 v20 e0)))) else e0 v19 v20)
noncomputable def log_Changed_L24 (g : C_log_Changed) : Nat → List (G_Contact × G_Contact) → List (G_Contact × G_Contact) → List Int → List G_Contact → {R : Type} → (List Int → List G_Contact → Option R) → Option R
 | 0, _, _, _, _, _, _ => none
 | n + 1, m31, l32, v29, v30, _, e0 => (pickAll l32 (e0 v29 v30) fun x35 l36 => (bif (decide ((v30.length + [x35.2].length) * 96 ≤ roomBytes')) then log_Changed_L24 g n m31 l36 v29 (v30 ++ [x35.2]) e0 else none))
noncomputable def raw_log_Changed (g : C_log_Changed) (a1 : List G_Contact) (a2 : List G_Change) {R : Type} (k0 : List G_Contact → List Int → Int → Option R) : Option R :=
 (g.log_CheckLog a1 (fun r3 => (bif (r3 != 0) then k0 [] [] r3 else (g.log_CheckChanges a2 (fun r4 => (bif (r4 != 0) then k0 [] [] r4 else (log_Changed_L9 g g.N a2 a1 (a1.length : Int) 0 [] (fun e14 e15 => (log_Changed_L15 g g.N e14 (e14.length : Int) 0 e15 [] (fun e27 e28 => (bif (decide ((e27.length : Int) > 2000)) then k0 [] [] 2 else (log_Changed_L24 g g.N e27 e27 e28 [] (fun e37 e38 => (g.slices_SortFunc__Contact_log_Compare e38 (fun r39 => k0 r39 e37 0)))))))))))))))
def dec0_log_Changed (p : IV A × List (IV A)) : Option ((List G_Contact) × (List Int) × Int) := match p with | (.tup [.arr 56 b1, .arr 3 b2, .d (.int .i64 b3)], [.undef, .undef]) => some (b1, b2, b3) | _ => none
def inj0_log_Changed (q : (List G_Contact) × (List Int) × Int) : IV A × List (IV A) := (.tup [.arr 56 q.1, .arr 3 q.2.1, .d (.int .i64 q.2.2)], [.undef, .undef])
theorem hi0_log_Changed (p : IV A × List (IV A)) (q : (List G_Contact) × (List Int) × Int) (h : dec0_log_Changed p = some q) : p = inj0_log_Changed q := by unfold dec0_log_Changed at h; split at h; (cases h; rfl); cases h
noncomputable def log_Changed_ (g : C_log_Changed) (a1 : List G_Contact) (a2 : List G_Change) {R : Type} (k0 : List G_Contact → List Int → Int → Option R) : Option R :=
 (raw_log_Changed g a1 a2 (fun z0 z1 z2 => some (inj0_log_Changed (z0, z1, z2)))).bind fun p => (decK dec0_log_Changed p (fun q => k0 q.1 q.2.1 q.2.2) none)
noncomputable def I_log_Changed [Fuel] : C_log_Changed := ⟨NN, @log_CheckLog _, @log_CheckChanges _, @log_key _, @log_change _, @slices_SortFunc__Contact_log_Compare _⟩
noncomputable def log_Changed [Fuel] : T_log_Changed := @log_Changed_ I_log_Changed
def SS_log_Changed (g : T_log_Changed) : Spec A := fun args => match args with | [.d (.sl 56 a1), .d (.sl 58 a2)] => fun k => g a1 a2 (fun z0 z1 z2 => k (.tup [.arr 56 z0, .arr 3 z1, .d (.int .i64 z2)]) [.undef, .undef]) | _ => fun _ => none
def sh_log_Changed_L9 : SSt := mkSh 73 10 [(1, .sl 58), (9, .mp 0), (29, .sl 56), (30, .int .i64), (31, .int .i64)] [(0, .mp 56 56)]
def LP_log_Changed_L9 (g : C_log_Changed) (n : Nat) : LPT A := fun ps => match ps with | [.d (.sl 58 p1), .d (.sl 56 p2), .d (.int .i64 p3), .d (.int .i64 p4), .mp 56 56 p5] => fun K => log_Changed_L9 g n p1 p2 p3 p4 p5 (fun z0 z1 => K (.exit 0) (mkSt 73 10 [(1, .d (.sl 58 z0)), (9, .mp 0)] [(0, some (.mp 56 56 z1))])) | _ => fun _ => none
def sh_log_Changed_L15 : SSt := mkSh 73 10 [(9, .mp 0), (12, .own 3 2), (40, .sl 58), (41, .int .i64), (42, .int .i64)] [(0, .mp 56 56), (2, .row 3)]
def LP_log_Changed_L15 (g : C_log_Changed) (n : Nat) : LPT A := fun ps => match ps with | [.d (.sl 58 p1), .d (.int .i64 p2), .d (.int .i64 p3), .mp 56 56 p4, .d (.sl 3 p5)] => fun K => log_Changed_L15 g n p1 p2 p3 p4 p5 (fun z0 z1 => K (.exit 2) (mkSt 73 10 [(9, .mp 0), (12, .own 3 2)] [(0, some (.mp 56 56 z0)), (2, some (.row 3 z1))])) | _ => fun _ => none
def sh_log_Changed_L24 : SSt := mkSh 73 10 [(12, .own 3 2), (15, .own 56 6), (59, .mp 0)] [(0, .gone (2, 0)), (2, .row 3), (6, .row 56)]
noncomputable def LP_log_Changed_L24 (g : C_log_Changed) (n : Nat) (m l : List (A 56 × A 56)) : LPT A := fun ps => match ps with | [.d (.sl 3 p1), .d (.sl 56 p2)] => fun K => log_Changed_L24 g n m l p1 p2 (fun z0 z1 => K .normal (mkSt 73 10 [(12, .own 3 2), (15, .own 56 6)] [(2, some (.row 3 z0)), (6, some (.row 56 z1))])) | _ => fun _ => none
noncomputable def code_17 : Code := (Tryz.f17.body).getD .skip
noncomputable def E_log_Changed (g : C_log_Changed) : Env A := mkE [(51, SS_log_CheckLog g.log_CheckLog), (52, SS_log_CheckChanges g.log_CheckChanges), (53, SS_log_key g.log_key), (54, SS_log_change g.log_change), (55, SS_slices_SortFunc__Contact_log_Compare g.slices_SortFunc__Contact_log_Compare)] [(11, [1]), (14, [3]), (17, [7]), (28, [0]), (53, [4]), (54, [5]), (67, [8]), (68, [9])] [(9, ⟨[1, 9, 29, 30, 31], [], [0], []⟩), (15, ⟨[9, 12, 40, 41, 42], [(12, 3, 2)], [0], []⟩), (24, ⟨[12, 15, 59], [(15, 56, 6)], [0, 2], []⟩)] [(9, ⟨[1, 9], [], [0], []⟩), (15, ⟨[9, 12], [], [0, 2], []⟩), (24, ⟨[12, 15], [], [2, 6], []⟩)] [(9, pieceOf sh_log_Changed_L9 (LP_log_Changed_L9 g g.N)), (15, pieceOf sh_log_Changed_L15 (LP_log_Changed_L15 g g.N))] [] [] [] [(55, 0)] []
noncomputable def CR_log_Changed (g : C_log_Changed) : Nat → Option (PieceR A) := fun i => List.lookup i [(24, pieceR 0 56 56 sh_log_Changed_L24 (LP_log_Changed_L24 g g.N))]
theorem ct_log_Changed [Fuel] : NatTab (E_log_Changed I_log_Changed).C := ct_of (P := Tryz.prog) (T := T) (.cons ok_log_CheckLog (.cons ok_log_CheckChanges (.cons ok_log_key (.cons ok_log_change (.cons ok_slices_SortFunc__Contact_log_Compare .nil))))) (by kernel_rfl)
noncomputable def cb_log_Changed_L9 : Code := sub [1, 1, 1, 1, 0, 1, 0, 0] code_17
theorem s_log_Changed_L9 (g : C_log_Changed) (n : Nat) : StepOk (E_log_Changed g) g.N cb_log_Changed_L9 sh_log_Changed_L9 (LP_log_Changed_L9 g) n := by intro ps; unfold LP_log_Changed_L9; split; exact .inr fun R K => (by kernel_rfl); exact .inl fun R K => rfl
theorem lf_log_Changed_L9 [Fuel] : LoopFine (E_log_Changed I_log_Changed) NN cb_log_Changed_L9 := fine_loop sh_log_Changed_L9 (LP_log_Changed_L9 I_log_Changed) (by kernel_rfl) ct_log_Changed (cuts0 (fun _ => rfl) (by kernel_rfl)) (fun ps R K => by unfold LP_log_Changed_L9; split <;> (try unfold log_Changed_L9) <;> rfl) (s_log_Changed_L9 I_log_Changed)
noncomputable def cb_log_Changed_L15 : Code := sub [1, 1, 1, 1, 1, 1, 0, 1, 0, 0] code_17
theorem s_log_Changed_L15 (g : C_log_Changed) (n : Nat) : StepOk (E_log_Changed g) g.N cb_log_Changed_L15 sh_log_Changed_L15 (LP_log_Changed_L15 g) n := by intro ps; unfold LP_log_Changed_L15; split; exact .inr fun R K => (by kernel_rfl); exact .inl fun R K => rfl
theorem lf_log_Changed_L15 [Fuel] : LoopFine (E_log_Changed I_log_Changed) NN cb_log_Changed_L15 := fine_loop sh_log_Changed_L15 (LP_log_Changed_L15 I_log_Changed) (by kernel_rfl) ct_log_Changed (cuts0 (fun _ => rfl) (by kernel_rfl)) (fun ps R K => by unfold LP_log_Changed_L15; split <;> (try unfold log_Changed_L15) <;> rfl) (s_log_Changed_L15 I_log_Changed)
noncomputable def rp_log_Changed_L24 : RangeP := (rangeOf (sub [1, 1, 1, 1, 1, 1, 1, 1, 1, 0, 0] code_17) (sub [1, 1, 1, 1, 1, 1, 1, 1, 1, 0, 1] code_17)).get (by kernel_rfl)
theorem s_log_Changed_L24 (g : C_log_Changed) (n : Nat) : RStepOk (E_log_Changed g) g.N rp_log_Changed_L24 0 56 56 sh_log_Changed_L24 (LP_log_Changed_L24 g) n := by intro m l ps; unfold LP_log_Changed_L24; split; exact .inr fun R K => (by kernel_rfl); exact .inl fun R K => rfl
theorem lf_log_Changed_L24 [Fuel] : ROk (E_log_Changed I_log_Changed) (CR_log_Changed I_log_Changed) NN rp_log_Changed_L24 := fine_range sh_log_Changed_L24 (LP_log_Changed_L24 I_log_Changed) (by kernel_rfl) (cuts0 (fun _ => rfl) (by kernel_rfl)) (fun m l ps R K => by unfold LP_log_Changed_L24; split <;> (try unfold log_Changed_L24) <;> rfl) (s_log_Changed_L24 I_log_Changed)
theorem sm_log_Changed (g : C_log_Changed) : Same (SS_log_Changed (@raw_log_Changed g)) (abodyR (E_log_Changed g) (CR_log_Changed g) Tryz.f17 code_17 10 [] [.arr 56, .arr 3, .asis] g.N) := by intro args; unfold SS_log_Changed; split; exact .inr fun R k => (by kernel_rfl); exact .inl fun R k => rfl
theorem wh_log_Changed (g : C_log_Changed) : Whole (SS_log_Changed (@log_Changed_ g)) (SS_log_Changed (@raw_log_Changed g)) := by
 intro args R k res h
 unfold SS_log_Changed at h
 split at h
 ·obtain ⟨p, hp, h⟩ := Option.bind_eq_some_iff.1 h
  exact ⟨p, hp, (decK_hc (inj := inj0_log_Changed) hi0_log_Changed (fun h => (by cases h)) h)⟩
 ·cases h
theorem nx_log_Changed (g : C_log_Changed) : NatSpec (SS_log_Changed (@log_Changed_ g)) := by
 intro args R k
 unfold SS_log_Changed
 split
 ·unfold log_Changed_
  rw [Option.bind_assoc]
  exact congrArg (Option.bind _) (funext fun p => (decK_na (inj := inj0_log_Changed) rfl))
 ·rfl
theorem ok_log_Changed [Fuel] : Ok 17 (SS_log_Changed (@log_Changed _)) := okR_of std (.cons ok_log_CheckLog (.cons ok_log_CheckChanges (.cons ok_log_key (.cons ok_log_change (.cons ok_slices_SortFunc__Contact_log_Compare .nil))))) ⟨rfl, rfl, by kernel_rfl, rfl, rfl, rfl⟩ (sm_log_Changed I_log_Changed) (wh_log_Changed I_log_Changed) (nx_log_Changed I_log_Changed) (cutsR (fun _ => rfl) (.cons lf_log_Changed_L9 (.cons lf_log_Changed_L15 .nil)) (.cons lf_log_Changed_L24 .nil) (by kernel_rfl) (by kernel_rfl)) Tryz.func17 (by kernel_rfl) (by kernel_rfl)
abbrev T_slices_Equal__Contact : Type 1 := List G_Contact → List G_Contact → {R : Type} → (Bool → Option R) → Option R
def slices_Equal__Contact_L4 (g : Nat) : Nat → List G_Contact → List G_Contact → Int → Int → {R : Type} → (Bool → Option R) → Option R → Option R
 | 0, _, _, _, _, _, _, _ => none
 | n + 1, v3, v4, v5, v6, _, e0, e1 => (bif (decide (v6 < v5)) then (get_ v3 v6 fun x9 => (get_ v4 v6 fun x10 => (bif (!(eq_G_Contact x9 x10)) then e0 false else slices_Equal__Contact_L4 g n v3 v4 v5 (w64 (v6 + 1)) e0 e1))) else e1)
def slices_Equal__Contact_ (g : Nat) (a1 a2 : List G_Contact) {R : Type} (k0 : Bool → Option R) : Option R :=
 (bif ((a1.length : Int) != (a2.length : Int)) then k0 false else (slices_Equal__Contact_L4 g g a1 a2 (a1.length : Int) 0 (fun e11 => k0 e11) (k0 true)))
noncomputable def slices_Equal__Contact [Fuel] : T_slices_Equal__Contact := @slices_Equal__Contact_ NN
def SS_slices_Equal__Contact (g : T_slices_Equal__Contact) : Spec A := fun args => match args with | [.d (.sl 56 a1), .d (.sl 56 a2)] => fun k => g a1 a2 (fun z0 => k (.d (.bool z0)) [.undef, .undef]) | _ => fun _ => none
def sh_slices_Equal__Contact_L4 : SSt := mkSh 26 0 [(0, .sl 56), (1, .sl 56), (12, .int .i64), (13, .int .i64)] []
def LP_slices_Equal__Contact_L4 (g : Nat) (n : Nat) : LPT A := fun ps => match ps with | [.d (.sl 56 p1), .d (.sl 56 p2), .d (.int .i64 p3), .d (.int .i64 p4)] => fun K => slices_Equal__Contact_L4 g n p1 p2 p3 p4 (fun z0 => K .ret (mkSt 26 0 [(4, .d (.bool z0))] [])) (K (.exit 0) (mkSt 26 0 [] [])) | _ => fun _ => none
noncomputable def code_20 : Code := (Tryz.f20.body).getD .skip
noncomputable def E_slices_Equal__Contact (g : Nat) : Env A := mkE [] [] [(4, ⟨[0, 1, 12, 13], [], [], []⟩)] [(4, ⟨[4], [], [], []⟩)] [(4, pieceOf sh_slices_Equal__Contact_L4 (LP_slices_Equal__Contact_L4 g g))] [] [] [] [] []
theorem ct_slices_Equal__Contact [Fuel] : NatTab (E_slices_Equal__Contact NN).C := ct_of (P := Tryz.prog) (T := T) .nil (by kernel_rfl)
noncomputable def cb_slices_Equal__Contact_L4 : Code := sub [1, 1, 0, 1, 0, 0] code_20
theorem s_slices_Equal__Contact_L4 (g : Nat) (n : Nat) : StepOk (E_slices_Equal__Contact g) g cb_slices_Equal__Contact_L4 sh_slices_Equal__Contact_L4 (LP_slices_Equal__Contact_L4 g) n := by intro ps; unfold LP_slices_Equal__Contact_L4; split; exact .inr fun R K => (by kernel_rfl); exact .inl fun R K => rfl
theorem lf_slices_Equal__Contact_L4 [Fuel] : LoopFine (E_slices_Equal__Contact NN) NN cb_slices_Equal__Contact_L4 := fine_loop sh_slices_Equal__Contact_L4 (LP_slices_Equal__Contact_L4 NN) (by kernel_rfl) ct_slices_Equal__Contact (cuts0 (fun _ => rfl) (by kernel_rfl)) (fun ps R K => by unfold LP_slices_Equal__Contact_L4; split <;> (try unfold slices_Equal__Contact_L4) <;> rfl) (s_slices_Equal__Contact_L4 NN)
theorem sm_slices_Equal__Contact (g : Nat) : Same (SS_slices_Equal__Contact (@slices_Equal__Contact_ g)) (abody (E_slices_Equal__Contact g) Tryz.f20 code_20 0 [] [.asis] g) := by intro args; unfold SS_slices_Equal__Contact; split; exact .inr fun R k => (by kernel_rfl); exact .inl fun R k => rfl
theorem ok_slices_Equal__Contact [Fuel] : Ok 20 (SS_slices_Equal__Contact (@slices_Equal__Contact _)) := okF_of std .nil ⟨rfl, rfl, by kernel_rfl, rfl, rfl, rfl⟩ (sm_slices_Equal__Contact NN) (cutsL (fun _ => rfl) (.cons lf_slices_Equal__Contact_L4 .nil) (by kernel_rfl)) Tryz.func20 (by kernel_rfl) (by kernel_rfl)
abbrev T_keep_ChangesCanGoBack : Type 1 := List Int → {R : Type} → (Bool → Option R) → Option R
structure C_keep_ChangesCanGoBack where
 N : Nat
 Stream_Range : T_Stream_Range
 keep_ready : T_keep_ready
 Stream_RightContacts : T_Stream_RightContacts
 Stream_Changes : T_Stream_Changes
 Q_ChangesFault : T_Q_ChangesFault
 log_Changed : T_log_Changed
 slices_Contains__int : T_slices_Contains__int
 keep_errs : T_keep_errs
 slices_Equal__Contact : T_slices_Equal__Contact
def keep_ChangesCanGoBack_L9 (g : C_keep_ChangesCanGoBack) : Nat → Int → Int → Int → List G_Contact → List G_Change → List G_Contact → List Int → List G_Change → {R : Type} → (Int → List G_Contact → List G_Contact → List G_Change → Option R) → Option R
 | 0, _, _, _, _, _, _, _, _, _, _ => none
 | n + 1, v13, v14, v15, v16, v17, v18, v19, v20, _, e0 => (bif (decide (v15 < v14)) then (inr v17 v15 (at_ v17 v15 fun x23 => (g.slices_Contains__int v19 v15 (fun r24 => (bif (!r24) then (bif (decide ((v20.length + [x23].length) * 208 ≤ roomBytes')) then keep_ChangesCanGoBack_L9 g n v13 v14 (w64 (v15 + 1)) v16 v17 v18 v19 (v20 ++ [x23]) e0 else none) else keep_ChangesCanGoBack_L9 g n v13 v14 (w64 (v15 + 1)) v16 v17 v18 v19 v20 e0))))) else e0 v13 v16 v18 v20)
def keep_ChangesCanGoBack_ (g : C_keep_ChangesCanGoBack) (a1 : List Int) {R : Type} (k0 : Bool → Option R) : Option R :=
 (g.Stream_Range (⟨a1, 0⟩ : G_Stream) 0 8 (fun r2 r3 => (g.Stream_RightContacts r3 r2 (fun r4 r5 => (g.Stream_Changes r5 r4 (fun r6 r7 => (g.Q_ChangesFault r6 (fun r8 => (bif (r8 != 0) then (g.keep_ready (fun r9 => k0 r9)) else (g.log_Changed r4 r6 (fun r10 r11 r12 => (keep_ChangesCanGoBack_L9 g g.N r12 (r6.length : Int) 0 r4 r6 r10 r11 [] (fun e25 e26 e27 e28 => (g.log_Changed e26 e28 (fun r29 r30 r31 => (g.keep_errs [e25, r31] (fun r32 => (bif (r32 != 0) then k0 false else (bif ((r30.length : Int) != 0) then k0 false else (g.slices_Equal__Contact r29 e27 (fun r33 => (bif (!r33) then k0 false else (g.log_Changed e26 [(⟨1, 1, (⟨0, 0, [], [], 0, 0, [], []⟩ : G_Contact), (⟨345686399999, 1, [98, 50, 48], [107, 49, 97, 98], 0, 0, [], []⟩ : G_Contact)⟩ : G_Change), (⟨2, 2, (⟨345686399999, 1, [98, 50, 48], [107, 49, 97, 98], 0, 0, [], []⟩ : G_Contact), (⟨0, 0, [], [], 0, 0, [], []⟩ : G_Contact)⟩ : G_Change)] (fun r34 r35 r36 => (bif (r36 == 0) then (bif ((r35.length : Int) == 0) then (g.slices_Equal__Contact r34 e26 (fun r37 => (bif r37 then (g.keep_ready (fun r38 => k0 r38)) else k0 false))) else k0 false) else k0 false)))))))))))))))))))))))))
noncomputable def I_keep_ChangesCanGoBack [Fuel] : C_keep_ChangesCanGoBack := ⟨NN, @Stream_Range _, @keep_ready _, @Stream_RightContacts _, @Stream_Changes _, @Q_ChangesFault _, @log_Changed _, @slices_Contains__int _, @keep_errs _, @slices_Equal__Contact _⟩
noncomputable def keep_ChangesCanGoBack [Fuel] : T_keep_ChangesCanGoBack := @keep_ChangesCanGoBack_ I_keep_ChangesCanGoBack
def SS_keep_ChangesCanGoBack (g : T_keep_ChangesCanGoBack) : Spec A := fun args => match args with | [.d (.sl 3 a1)] => fun k => g a1 (fun z0 => k (.d (.bool z0)) [.undef]) | _ => fun _ => none
def sh_keep_ChangesCanGoBack_L9 : SSt := mkSh 106 16 [(4, .own 56 1), (6, .own 56 3), (7, .own 3 4), (8, .int .i64), (9, .own 58 5), (40, .own 58 2), (41, .int .i64), (42, .int .i64)] [(1, .frz 56), (2, .row 58), (3, .row 56), (4, .row 3), (5, .row 58)]
def LP_keep_ChangesCanGoBack_L9 (g : C_keep_ChangesCanGoBack) (n : Nat) : LPT A := fun ps => match ps with | [.d (.int .i64 p1), .d (.int .i64 p2), .d (.int .i64 p3), .d (.sl 56 p4), .d (.sl 58 p5), .d (.sl 56 p6), .d (.sl 3 p7), .d (.sl 58 p8)] => fun K => keep_ChangesCanGoBack_L9 g n p1 p2 p3 p4 p5 p6 p7 p8 (fun z0 z1 z2 z3 => K (.exit 0) (mkSt 106 16 [(4, .own 56 1), (6, .own 56 3), (8, .d (.int .i64 z0)), (9, .own 58 5)] [(1, some (.frz 56 z1)), (3, some (.row 56 z2)), (5, some (.row 58 z3))])) | _ => fun _ => none
noncomputable def code_4 : Code := (Tryz.f4.body).getD .skip
noncomputable def E_keep_ChangesCanGoBack (g : C_keep_ChangesCanGoBack) : Env A := mkE [(7, SS_Stream_Range g.Stream_Range), (10, SS_keep_ready g.keep_ready), (14, SS_Stream_RightContacts g.Stream_RightContacts), (15, SS_Stream_Changes g.Stream_Changes), (16, SS_Q_ChangesFault g.Q_ChangesFault), (17, SS_log_Changed g.log_Changed), (18, SS_slices_Contains__int g.slices_Contains__int), (19, SS_keep_errs g.keep_errs), (20, SS_slices_Equal__Contact g.slices_Equal__Contact)] [(11, [6]), (15, [12]), (21, [0]), (25, [1]), (28, [2]), (36, [3, 4]), (53, [7]), (54, [8]), (59, [9, 10]), (65, [11]), (86, [13]), (87, [14, 15])] [(9, ⟨[4, 6, 7, 8, 9, 40, 41, 42], [(9, 58, 5)], [1, 2, 3, 4], []⟩)] [(9, ⟨[4, 6, 8, 9], [], [1, 3, 5], []⟩)] [(9, pieceOf sh_keep_ChangesCanGoBack_L9 (LP_keep_ChangesCanGoBack_L9 g g.N))] [] [] [] [] []
theorem ct_keep_ChangesCanGoBack [Fuel] : NatTab (E_keep_ChangesCanGoBack I_keep_ChangesCanGoBack).C := ct_of (P := Tryz.prog) (T := T) (.cons ok_Stream_Range (.cons ok_keep_ready (.cons ok_Stream_RightContacts (.cons ok_Stream_Changes (.cons ok_Q_ChangesFault (.cons ok_log_Changed (.cons ok_slices_Contains__int (.cons ok_keep_errs (.cons ok_slices_Equal__Contact .nil))))))))) (by kernel_rfl)
noncomputable def cb_keep_ChangesCanGoBack_L9 : Code := sub [1, 1, 1, 1, 1, 1, 1, 0, 1, 0, 0] code_4
theorem s_keep_ChangesCanGoBack_L9 (g : C_keep_ChangesCanGoBack) (n : Nat) : StepOk (E_keep_ChangesCanGoBack g) g.N cb_keep_ChangesCanGoBack_L9 sh_keep_ChangesCanGoBack_L9 (LP_keep_ChangesCanGoBack_L9 g) n := by intro ps; unfold LP_keep_ChangesCanGoBack_L9; split; exact .inr fun R K => (by kernel_rfl); exact .inl fun R K => rfl
theorem lf_keep_ChangesCanGoBack_L9 [Fuel] : LoopFine (E_keep_ChangesCanGoBack I_keep_ChangesCanGoBack) NN cb_keep_ChangesCanGoBack_L9 := fine_loop sh_keep_ChangesCanGoBack_L9 (LP_keep_ChangesCanGoBack_L9 I_keep_ChangesCanGoBack) (by kernel_rfl) ct_keep_ChangesCanGoBack (cuts0 (fun _ => rfl) (by kernel_rfl)) (fun ps R K => by unfold LP_keep_ChangesCanGoBack_L9; split <;> (try unfold keep_ChangesCanGoBack_L9) <;> rfl) (s_keep_ChangesCanGoBack_L9 I_keep_ChangesCanGoBack)
theorem sm_keep_ChangesCanGoBack (g : C_keep_ChangesCanGoBack) : Same (SS_keep_ChangesCanGoBack (@keep_ChangesCanGoBack_ g)) (abody (E_keep_ChangesCanGoBack g) Tryz.f4 code_4 16 [] [.asis] g.N) := by intro args; unfold SS_keep_ChangesCanGoBack; split; exact .inr fun R k => (by kernel_rfl); exact .inl fun R k => rfl
theorem ok_keep_ChangesCanGoBack [Fuel] : Ok 4 (SS_keep_ChangesCanGoBack (@keep_ChangesCanGoBack _)) := okF_of std (.cons ok_Stream_Range (.cons ok_keep_ready (.cons ok_Stream_RightContacts (.cons ok_Stream_Changes (.cons ok_Q_ChangesFault (.cons ok_log_Changed (.cons ok_slices_Contains__int (.cons ok_keep_errs (.cons ok_slices_Equal__Contact .nil))))))))) ⟨rfl, rfl, by kernel_rfl, rfl, rfl, rfl⟩ (sm_keep_ChangesCanGoBack I_keep_ChangesCanGoBack) (cutsL (fun _ => rfl) (.cons lf_keep_ChangesCanGoBack_L9 .nil) (by kernel_rfl)) Tryz.func4 (by kernel_rfl) (by kernel_rfl)
end Go.Am
