/- The functions of the program as Lean functions, each shown to be what the code computes, part 5. No condition: lemmas for the claim. -/
import Derived.Test.YthfphbbhjodbcaaGreatDoorF0
import Derived.Test.YthfphbbhjodbcaaGreatDoorFSh
import Derived.Test.YthfphbbhjodbcaaGreatDoorF1
import Derived.Test.YthfphbbhjodbcaaGreatDoorF2
import Derived.Test.YthfphbbhjodbcaaGreatDoorF3
import Derived.Test.YthfphbbhjodbcaaGreatDoorF4
set_option linter.unusedVariables false
set_option maxRecDepth 100000
namespace Go.Am
open Go Go.Proofs
abbrev T_log_Without : Type 1 := List G_Contact → List G_Contact → {R : Type} → (List G_Contact → Option R) → Option R
def log_Without_L3 (g : Nat) : Nat → List G_Contact → List G_Contact → Int → Int → List (G_Contact × Bool) → {R : Type} → (List G_Contact → List (G_Contact × Bool) → Option R) → Option R
  | 0, _, _, _, _, _, _, _ => none
  | n + 1, v3, v4, v5, v6, v7, _, e0 => (bif (decide (v6 < v5)) then (get_ v4 v6 fun x9 => log_Without_L3 g n v3 v4 v5 (w64 (v6 + 1)) (mset_Contact_bool x9 true v7) e0) else e0 v3 v7)
def log_Without_L9 (g : Nat) : Nat → List G_Contact → Int → Int → List (G_Contact × Bool) → List G_Contact → {R : Type} → (List G_Contact → Option R) → Option R
  | 0, _, _, _, _, _, _, _ => none
  | n + 1, v12, v13, v14, v15, v16, _, e0 => (bif (decide (v14 < v13)) then (get_ v12 v14 fun x18 => (bif (!((mget_Contact_bool x18 v15).getD false)) then (bif (decide ((v16.length + [x18].length) * 96 ≤ roomBytes')) then log_Without_L9 g n v12 v13 (w64 (v14 + 1)) v15 (v16 ++ [x18]) e0 else none) else log_Without_L9 g n v12 v13 (w64 (v14 + 1)) v15 v16 e0)) else e0 v16)
def log_Without_ (g : Nat) (a1 a2 : List G_Contact) {R : Type} (k0 : List G_Contact → Option R) : Option R :=
  (log_Without_L3 g g a1 a2 (a2.length : Int) 0 [] (fun e10 e11 => (log_Without_L9 g g e10 (e10.length : Int) 0 e11 [] (fun e19 => k0 e19))))
def log_Without [Fuel] : T_log_Without := @log_Without_ NN
def SS_log_Without (g : T_log_Without) : Spec A := fun args => match args with | [.d (.sl 58 a1), .d (.sl 58 a2)] => fun k => g a1 a2 (fun z0 => k (.arr 58 z0) [.undef, .undef]) | _ => fun _ => none
def sh_log_Without_L3 : SSt := mkSh 37 6 [(0, .sl 58), (5, .mp 0), (12, .sl 58), (13, .int .i64), (14, .int .i64)] [(0, .mp 58 4)]
def LP_log_Without_L3 (g : Nat) (n : Nat) : LPT A := fun ps => match ps with | [.d (.sl 58 p1), .d (.sl 58 p2), .d (.int .i64 p3), .d (.int .i64 p4), .mp 58 4 p5] => fun K => log_Without_L3 g n p1 p2 p3 p4 p5 (fun z0 z1 => K (.exit 0) (mkSt 37 6 [(0, .d (.sl 58 z0)), (5, .mp 0)] [(0, some (.mp 58 4 z1))])) | _ => fun _ => none
def sh_log_Without_L9 : SSt := mkSh 37 6 [(5, .mp 0), (8, .own 58 2), (21, .sl 58), (22, .int .i64), (23, .int .i64)] [(0, .mp 58 4), (2, .row 58)]
def LP_log_Without_L9 (g : Nat) (n : Nat) : LPT A := fun ps => match ps with | [.d (.sl 58 p1), .d (.int .i64 p2), .d (.int .i64 p3), .mp 58 4 p4, .d (.sl 58 p5)] => fun K => log_Without_L9 g n p1 p2 p3 p4 p5 (fun z0 => K (.exit 2) (mkSt 37 6 [(8, .own 58 2)] [(2, some (.row 58 z0))])) | _ => fun _ => none
noncomputable def code_60 : Code := (Tryz.f60.body).getD .skip
noncomputable def E_log_Without (g : Nat) : Env A := mkE [] [(7, [1]), (10, [3]), (11, [0]), (33, [4]), (34, [5])] [(3, ⟨[0, 5, 12, 13, 14], [], [0], []⟩), (9, ⟨[5, 8, 21, 22, 23], [(8, 58, 2)], [0], []⟩)] [(3, ⟨[0, 5], [], [0], []⟩), (9, ⟨[8], [], [2], []⟩)] [(3, pieceOf sh_log_Without_L3 (LP_log_Without_L3 g g)), (9, pieceOf sh_log_Without_L9 (LP_log_Without_L9 g g))] [] [] [] [] []
theorem ct_log_Without [Fuel] : NatTab (E_log_Without NN).C := ct_of (P := Tryz.prog) (T := T) .nil (by kernel_rfl)
noncomputable def cb_log_Without_L3 : Code := sub [1, 1, 0, 1, 0, 0] code_60
theorem s_log_Without_L3 (g : Nat) (n : Nat) : StepOk (E_log_Without g) g cb_log_Without_L3 sh_log_Without_L3 (LP_log_Without_L3 g) n := by intro ps; unfold LP_log_Without_L3; split; exact .inr fun R K => (by kernel_rfl); exact .inl fun R K => rfl
theorem lf_log_Without_L3 [Fuel] : LoopFine (E_log_Without NN) NN cb_log_Without_L3 := fine_loop sh_log_Without_L3 (LP_log_Without_L3 NN) (by kernel_rfl) ct_log_Without (cuts0 (fun _ => rfl) (by kernel_rfl)) (fun ps R K => by unfold LP_log_Without_L3; split <;> (try unfold log_Without_L3) <;> rfl) (s_log_Without_L3 NN)
noncomputable def cb_log_Without_L9 : Code := sub [1, 1, 1, 1, 0, 1, 0, 0] code_60
theorem s_log_Without_L9 (g : Nat) (n : Nat) : StepOk (E_log_Without g) g cb_log_Without_L9 sh_log_Without_L9 (LP_log_Without_L9 g) n := by intro ps; unfold LP_log_Without_L9; split; exact .inr fun R K => (by kernel_rfl); exact .inl fun R K => rfl
theorem lf_log_Without_L9 [Fuel] : LoopFine (E_log_Without NN) NN cb_log_Without_L9 := fine_loop sh_log_Without_L9 (LP_log_Without_L9 NN) (by kernel_rfl) ct_log_Without (cuts0 (fun _ => rfl) (by kernel_rfl)) (fun ps R K => by unfold LP_log_Without_L9; split <;> (try unfold log_Without_L9) <;> rfl) (s_log_Without_L9 NN)
theorem sm_log_Without (g : Nat) : Same (SS_log_Without (@log_Without_ g)) (abody (E_log_Without g) Tryz.f60 code_60 6 [] [.arr 58] g) := by intro args; unfold SS_log_Without; split; exact .inr fun R k => (by kernel_rfl); exact .inl fun R k => rfl
theorem ok_log_Without [Fuel] : Ok 60 (SS_log_Without (@log_Without _)) := okF_of std .nil ⟨rfl, rfl, by kernel_rfl, rfl, rfl⟩ (sm_log_Without NN) (cutsL (fun _ => rfl) (.cons lf_log_Without_L3 (.cons lf_log_Without_L9 .nil)) (by kernel_rfl)) Tryz.func60 (by kernel_rfl) (by kernel_rfl)
abbrev T_log_Lacks : Type 1 := List G_Contact → List G_Contact → {R : Type} → (List G_Contact → Int → Option R) → Option R
structure C_log_Lacks where
  N : Nat
  log_checkBoth : T_log_checkBoth
  log_Without : T_log_Without
def log_Lacks_ (g : C_log_Lacks) (a1 a2 : List G_Contact) {R : Type} (k0 : List G_Contact → Int → Option R) : Option R :=
  (g.log_checkBoth a1 a2 (fun r3 => (bif (r3 != 0) then k0 [] r3 else (g.log_Without a2 a1 (fun r4 => k0 r4 0)))))
def I_log_Lacks [Fuel] : C_log_Lacks := ⟨NN, @log_checkBoth _, @log_Without _⟩
def log_Lacks [Fuel] : T_log_Lacks := @log_Lacks_ I_log_Lacks
def SS_log_Lacks (g : T_log_Lacks) : Spec A := fun args => match args with | [.d (.sl 58 a1), .d (.sl 58 a2)] => fun k => g a1 a2 (fun z0 z1 => k (.tup [.arr 58 z0, .d (.int .i64 z1)]) [.undef, .undef]) | _ => fun _ => none
noncomputable def code_32 : Code := (Tryz.f32.body).getD .skip
noncomputable def E_log_Lacks (g : C_log_Lacks) : Env A := mkE [(56, SS_log_checkBoth g.log_checkBoth), (60, SS_log_Without g.log_Without)] [(15, [0])] [] [] [] [] [] [] [] []
theorem sm_log_Lacks (g : C_log_Lacks) : Same (SS_log_Lacks (@log_Lacks_ g)) (abody (E_log_Lacks g) Tryz.f32 code_32 1 [] [.arr 58, .asis] g.N) := by intro args; unfold SS_log_Lacks; split; exact .inr fun R k => (by kernel_rfl); exact .inl fun R k => rfl
theorem ok_log_Lacks [Fuel] : Ok 32 (SS_log_Lacks (@log_Lacks _)) := okF_of std (.cons ok_log_checkBoth (.cons ok_log_Without .nil)) ⟨rfl, rfl, by kernel_rfl, rfl, rfl⟩ (sm_log_Lacks I_log_Lacks) (cuts0 (fun _ => rfl) (by kernel_rfl)) Tryz.func32 (by kernel_rfl) (by kernel_rfl)
abbrev T_Q_in : Type 1 := Int → Int → Int → {R : Type} → (Bool → Option R) → Option R
def Q_in_ (g : Nat) (a1 a2 a3 : Int) {R : Type} (k0 : Bool → Option R) : Option R :=
  (bif (decide (a2 ≤ a1)) then k0 (decide (a1 ≤ a3)) else k0 false)
def Q_in [Fuel] : T_Q_in := @Q_in_ NN
def SS_Q_in (g : T_Q_in) : Spec A := fun args => match args with | [.d (.int .i64 a1), .d (.int .i64 a2), .d (.int .i64 a3)] => fun k => g a1 a2 a3 (fun z0 => k (.d (.bool z0)) [.undef, .undef, .undef]) | _ => fun _ => none
noncomputable def code_47 : Code := (Tryz.f47.body).getD .skip
noncomputable def E_Q_in (g : Nat) : Env A := mkE [] [] [] [] [] [] [] [] [] []
theorem sm_Q_in (g : Nat) : Same (SS_Q_in (@Q_in_ g)) (abody (E_Q_in g) Tryz.f47 code_47 0 [] [.asis] g) := by intro args; unfold SS_Q_in; split; exact .inr fun R k => (by kernel_rfl); exact .inl fun R k => rfl
theorem ok_Q_in [Fuel] : Ok 47 (SS_Q_in (@Q_in _)) := okF_of std .nil ⟨rfl, rfl, by kernel_rfl, rfl, rfl⟩ (sm_Q_in NN) (cuts0 (fun _ => rfl) (by kernel_rfl)) Tryz.func47 (by kernel_rfl) (by kernel_rfl)
abbrev T_Q_Moment : Type 1 := Int → {R : Type} → (Bool → Option R) → Option R
structure C_Q_Moment where
  N : Nat
  Q_in : T_Q_in
def Q_Moment_ (g : C_Q_Moment) (a1 : Int) {R : Type} (k0 : Bool → Option R) : Option R :=
  (g.Q_in a1 0 345686399999 (fun r2 => k0 r2))
def I_Q_Moment [Fuel] : C_Q_Moment := ⟨NN, @Q_in _⟩
def Q_Moment [Fuel] : T_Q_Moment := @Q_Moment_ I_Q_Moment
def SS_Q_Moment (g : T_Q_Moment) : Spec A := fun args => match args with | [.d (.int .i64 a1)] => fun k => g a1 (fun z0 => k (.d (.bool z0)) [.undef]) | _ => fun _ => none
noncomputable def code_69 : Code := (Tryz.f69.body).getD .skip
noncomputable def E_Q_Moment (g : C_Q_Moment) : Env A := mkE [(47, SS_Q_in g.Q_in)] [] [] [] [] [] [] [] [] []
theorem sm_Q_Moment (g : C_Q_Moment) : Same (SS_Q_Moment (@Q_Moment_ g)) (abody (E_Q_Moment g) Tryz.f69 code_69 0 [] [.asis] g.N) := by intro args; unfold SS_Q_Moment; split; exact .inr fun R k => (by kernel_rfl); exact .inl fun R k => rfl
theorem ok_Q_Moment [Fuel] : Ok 69 (SS_Q_Moment (@Q_Moment _)) := okF_of std (.cons ok_Q_in .nil) ⟨rfl, rfl, by kernel_rfl, rfl, rfl⟩ (sm_Q_Moment I_Q_Moment) (cuts0 (fun _ => rfl) (by kernel_rfl)) Tryz.func69 (by kernel_rfl) (by kernel_rfl)
abbrev T_Q_only : Type 1 := List UInt8 → List UInt8 → {R : Type} → (Bool → Option R) → Option R
structure C_Q_only where
  N : Nat
  strings_IndexByte : T_strings_IndexByte
def Q_only_L2 (g : C_Q_only) : Nat → List UInt8 → List UInt8 → Int → Int → {R : Type} → (Bool → Option R) → Option R → Option R
  | 0, _, _, _, _, _, _, _ => none
  | n + 1, v3, v4, v5, v6, _, e0, e1 => (bif (decide (v6 < v5)) then (get_ v3 v6 fun x9 => (g.strings_IndexByte v4 (x9.toNat : Int) (fun r10 => (bif (decide (r10 < 0)) then e0 false else Q_only_L2 g n v3 v4 v5 (w64 (v6 + 1)) e0 e1)))) else e1)
def Q_only_ (g : C_Q_only) (a1 a2 : List UInt8) {R : Type} (k0 : Bool → Option R) : Option R :=
  (Q_only_L2 g g.N a1 a2 (a1.length : Int) 0 (fun e11 => k0 e11) (k0 true))
def I_Q_only [Fuel] : C_Q_only := ⟨NN, @strings_IndexByte _⟩
def Q_only [Fuel] : T_Q_only := @Q_only_ I_Q_only
def SS_Q_only (g : T_Q_only) : Spec A := fun args => match args with | [.d (.str a1), .d (.str a2)] => fun k => g a1 a2 (fun z0 => k (.d (.bool z0)) [.undef, .undef]) | _ => fun _ => none
def sh_Q_only_L2 : SSt := mkSh 18 0 [(0, .str), (1, .str), (7, .int .i64), (8, .int .i64)] []
def LP_Q_only_L2 (g : C_Q_only) (n : Nat) : LPT A := fun ps => match ps with | [.d (.str p1), .d (.str p2), .d (.int .i64 p3), .d (.int .i64 p4)] => fun K => Q_only_L2 g n p1 p2 p3 p4 (fun z0 => K .ret (mkSt 18 0 [(4, .d (.bool z0))] [])) (K (.exit 0) (mkSt 18 0 [] [])) | _ => fun _ => none
noncomputable def code_85 : Code := (Tryz.f85.body).getD .skip
noncomputable def E_Q_only (g : C_Q_only) : Env A := mkE [(82, SS_strings_IndexByte g.strings_IndexByte)] [] [(2, ⟨[0, 1, 7, 8], [], [], []⟩)] [(2, ⟨[4], [], [], []⟩)] [(2, pieceOf sh_Q_only_L2 (LP_Q_only_L2 g g.N))] [] [] [] [] []
theorem ct_Q_only [Fuel] : NatTab (E_Q_only I_Q_only).C := ct_of (P := Tryz.prog) (T := T) (.cons ok_strings_IndexByte .nil) (by kernel_rfl)
noncomputable def cb_Q_only_L2 : Code := sub [1, 0, 1, 0, 0] code_85
theorem s_Q_only_L2 (g : C_Q_only) (n : Nat) : StepOk (E_Q_only g) g.N cb_Q_only_L2 sh_Q_only_L2 (LP_Q_only_L2 g) n := by intro ps; unfold LP_Q_only_L2; split; exact .inr fun R K => (by kernel_rfl); exact .inl fun R K => rfl
theorem lf_Q_only_L2 [Fuel] : LoopFine (E_Q_only I_Q_only) NN cb_Q_only_L2 := fine_loop sh_Q_only_L2 (LP_Q_only_L2 I_Q_only) (by kernel_rfl) ct_Q_only (cuts0 (fun _ => rfl) (by kernel_rfl)) (fun ps R K => by unfold LP_Q_only_L2; split <;> (try unfold Q_only_L2) <;> rfl) (s_Q_only_L2 I_Q_only)
theorem sm_Q_only (g : C_Q_only) : Same (SS_Q_only (@Q_only_ g)) (abody (E_Q_only g) Tryz.f85 code_85 0 [] [.asis] g.N) := by intro args; unfold SS_Q_only; split; exact .inr fun R k => (by kernel_rfl); exact .inl fun R k => rfl
theorem ok_Q_only [Fuel] : Ok 85 (SS_Q_only (@Q_only _)) := okF_of std (.cons ok_strings_IndexByte .nil) ⟨rfl, rfl, by kernel_rfl, rfl, rfl⟩ (sm_Q_only I_Q_only) (cutsL (fun _ => rfl) (.cons lf_Q_only_L2 .nil) (by kernel_rfl)) Tryz.func85 (by kernel_rfl) (by kernel_rfl)
abbrev T_Q_Key : Type 1 := List UInt8 → {R : Type} → (Bool → Option R) → Option R
structure C_Q_Key where
  N : Nat
  Q_in : T_Q_in
  Q_only : T_Q_only
def Q_Key_ (g : C_Q_Key) (a1 : List UInt8) {R : Type} (k0 : Bool → Option R) : Option R :=
  (g.Q_in (a1.length : Int) 1 40 (fun r2 => (bif r2 then (bif (decide (0 ≤ 1) && decide (1 ≤ (a1.length : Int))) then (g.Q_only (a1.take (1 : Int).toNat) [97, 98, 99, 100, 101, 102, 103, 104, 105, 106, 107, 108, 109, 110, 111, 112, 113, 114, 115, 116, 117, 118, 119, 120, 121, 122] (fun r3 => (bif r3 then (g.Q_only a1 [97, 98, 99, 100, 101, 102, 103, 104, 105, 106, 107, 108, 109, 110, 111, 112, 113, 114, 115, 116, 117, 118, 119, 120, 121, 122, 48, 49, 50, 51, 52, 53, 54, 55, 56, 57, 45, 95] (fun r4 => k0 r4)) else k0 false))) else none) else k0 false)))
def I_Q_Key [Fuel] : C_Q_Key := ⟨NN, @Q_in _, @Q_only _⟩
def Q_Key [Fuel] : T_Q_Key := @Q_Key_ I_Q_Key
def SS_Q_Key (g : T_Q_Key) : Spec A := fun args => match args with | [.d (.str a1)] => fun k => g a1 (fun z0 => k (.d (.bool z0)) [.undef]) | _ => fun _ => none
noncomputable def code_70 : Code := (Tryz.f70.body).getD .skip
noncomputable def E_Q_Key (g : C_Q_Key) : Env A := mkE [(47, SS_Q_in g.Q_in), (85, SS_Q_only g.Q_only)] [] [] [] [] [] [] [] [] []
theorem sm_Q_Key (g : C_Q_Key) : Same (SS_Q_Key (@Q_Key_ g)) (abody (E_Q_Key g) Tryz.f70 code_70 0 [] [.asis] g.N) := by intro args; unfold SS_Q_Key; split; exact .inr fun R k => (by kernel_rfl); exact .inl fun R k => rfl
theorem ok_Q_Key [Fuel] : Ok 70 (SS_Q_Key (@Q_Key _)) := okF_of std (.cons ok_Q_in (.cons ok_Q_only .nil)) ⟨rfl, rfl, by kernel_rfl, rfl, rfl⟩ (sm_Q_Key I_Q_Key) (cuts0 (fun _ => rfl) (by kernel_rfl)) Tryz.func70 (by kernel_rfl) (by kernel_rfl)
abbrev T_R_in : Type 1 := Int → Int → Int → {R : Type} → (Bool → Option R) → Option R
def R_in_ (g : Nat) (a1 a2 a3 : Int) {R : Type} (k0 : Bool → Option R) : Option R :=
  (bif (decide (a2 ≤ a1)) then k0 (decide (a1 ≤ a3)) else k0 false)
def R_in [Fuel] : T_R_in := @R_in_ NN
def SS_R_in (g : T_R_in) : Spec A := fun args => match args with | [.d (.int .i64 a1), .d (.int .i64 a2), .d (.int .i64 a3)] => fun k => g a1 a2 a3 (fun z0 => k (.d (.bool z0)) [.undef, .undef, .undef]) | _ => fun _ => none
noncomputable def code_111 : Code := (Tryz.f111.body).getD .skip
noncomputable def E_R_in (g : Nat) : Env A := mkE [] [] [] [] [] [] [] [] [] []
theorem sm_R_in (g : Nat) : Same (SS_R_in (@R_in_ g)) (abody (E_R_in g) Tryz.f111 code_111 0 [] [.asis] g) := by intro args; unfold SS_R_in; split; exact .inr fun R k => (by kernel_rfl); exact .inl fun R k => rfl
theorem ok_R_in [Fuel] : Ok 111 (SS_R_in (@R_in _)) := okF_of std .nil ⟨rfl, rfl, by kernel_rfl, rfl, rfl⟩ (sm_R_in NN) (cuts0 (fun _ => rfl) (by kernel_rfl)) Tryz.func111 (by kernel_rfl) (by kernel_rfl)
abbrev T_strings_ContainsAny : Type 1 := List UInt8 → List UInt8 → {R : Type} → (Bool → Option R) → Option R
def strings_ContainsAny [Fuel] : T_strings_ContainsAny := @X_cany
def SS_strings_ContainsAny (g : T_strings_ContainsAny) : Spec A := SSX_cany g
theorem ok_strings_ContainsAny [Fuel] : Ok 112 (SS_strings_ContainsAny (@strings_ContainsAny _)) := ⟨ssx_cany_sound (cany_sound (fun s cs w h1 h2 h3 h4 => Any.strings_ContainsAny_laid Tryz.lays150 (by kernel_rfl) s cs w h1 h2 h3 h4)), ssx_cany_nat, enters_of (fn := Tryz.f112) Tryz.func112 (by kernel_rfl) (by kernel_rfl)⟩
abbrev T_R_plain : Type 1 := List UInt8 → Int → Int → {R : Type} → (Bool → Option R) → Option R
structure C_R_plain where
  N : Nat
  strings_Trim : T_strings_Trim
  R_in : T_R_in
  strings_ContainsAny : T_strings_ContainsAny
def R_plain_ (g : C_R_plain) (a1 : List UInt8) (a2 a3 : Int) {R : Type} (k0 : Bool → Option R) : Option R :=
  (g.R_in (a1.length : Int) a2 a3 (fun r4 => (bif r4 then (g.strings_Trim a1 [97, 98, 99, 100, 101, 102, 103, 104, 105, 106, 107, 108, 109, 110, 111, 112, 113, 114, 115, 116, 117, 118, 119, 120, 121, 122, 48, 49, 50, 51, 52, 53, 54, 55, 56, 57] (fun r5 => (bif (r5 == []) then (g.strings_ContainsAny a1 [97, 98, 99, 100, 101, 102, 103, 104, 105, 106, 107, 108, 109, 110, 111, 112, 113, 114, 115, 116, 117, 118, 119, 120, 121, 122] (fun r6 => k0 r6)) else k0 false))) else k0 false)))
def I_R_plain [Fuel] : C_R_plain := ⟨NN, @strings_Trim _, @R_in _, @strings_ContainsAny _⟩
def R_plain [Fuel] : T_R_plain := @R_plain_ I_R_plain
def SS_R_plain (g : T_R_plain) : Spec A := fun args => match args with | [.d (.str a1), .d (.int .i64 a2), .d (.int .i64 a3)] => fun k => g a1 a2 a3 (fun z0 => k (.d (.bool z0)) [.undef, .undef, .undef]) | _ => fun _ => none
noncomputable def code_110 : Code := (Tryz.f110.body).getD .skip
noncomputable def E_R_plain (g : C_R_plain) : Env A := mkE [(83, SS_strings_Trim g.strings_Trim), (111, SS_R_in g.R_in), (112, SS_strings_ContainsAny g.strings_ContainsAny)] [] [] [] [] [] [] [] [] []
theorem sm_R_plain (g : C_R_plain) : Same (SS_R_plain (@R_plain_ g)) (abody (E_R_plain g) Tryz.f110 code_110 0 [] [.asis] g.N) := by intro args; unfold SS_R_plain; split; exact .inr fun R k => (by kernel_rfl); exact .inl fun R k => rfl
theorem ok_R_plain [Fuel] : Ok 110 (SS_R_plain (@R_plain _)) := okF_of std (.cons ok_strings_Trim (.cons ok_R_in (.cons ok_strings_ContainsAny .nil))) ⟨rfl, rfl, by kernel_rfl, rfl, rfl⟩ (sm_R_plain I_R_plain) (cuts0 (fun _ => rfl) (by kernel_rfl)) Tryz.func110 (by kernel_rfl) (by kernel_rfl)
abbrev T_R_baseAt : Type 1 := List UInt8 → {R : Type} → (Int → Option R) → Option R
structure C_R_baseAt where
  N : Nat
  strings_LastIndexAny : T_strings_LastIndexAny
  R_plain : T_R_plain
  R_in : T_R_in
  strings_ContainsAny : T_strings_ContainsAny
def R_baseAt_ (g : C_R_baseAt) (a1 : List UInt8) {R : Type} (k0 : Int → Option R) : Option R :=
  (g.strings_LastIndexAny a1 [48, 49, 50, 51, 52, 53, 54, 55, 56, 57] (fun r2 => (g.R_plain a1 3 10 (fun r3 => (bif (!r3) then k0 (-1) else (g.R_in r2 1 3 (fun r4 => (bif (!r4) then k0 (-1) else (g.R_in (w64 ((w64 ((a1.length : Int) - 1)) - r2)) 1 4 (fun r5 => (bif (!r5) then k0 (-1) else (bif (decide (0 ≤ r2) && decide (r2 ≤ (a1.length : Int))) then (g.strings_ContainsAny (a1.take (r2 : Int).toNat) [97, 98, 99, 100, 101, 102, 103, 104, 105, 106, 107, 108, 109, 110, 111, 112, 113, 114, 115, 116, 117, 118, 119, 120, 121, 122] (fun r6 => (bif (!r6) then k0 (-1) else k0 r2))) else none))))))))))))
def I_R_baseAt [Fuel] : C_R_baseAt := ⟨NN, @strings_LastIndexAny _, @R_plain _, @R_in _, @strings_ContainsAny _⟩
def R_baseAt [Fuel] : T_R_baseAt := @R_baseAt_ I_R_baseAt
def SS_R_baseAt (g : T_R_baseAt) : Spec A := fun args => match args with | [.d (.str a1)] => fun k => g a1 (fun z0 => k (.d (.int .i64 z0)) [.undef]) | _ => fun _ => none
noncomputable def code_91 : Code := (Tryz.f91.body).getD .skip
noncomputable def E_R_baseAt (g : C_R_baseAt) : Env A := mkE [(109, SS_strings_LastIndexAny g.strings_LastIndexAny), (110, SS_R_plain g.R_plain), (111, SS_R_in g.R_in), (112, SS_strings_ContainsAny g.strings_ContainsAny)] [] [] [] [] [] [] [] [] []
theorem sm_R_baseAt (g : C_R_baseAt) : Same (SS_R_baseAt (@R_baseAt_ g)) (abody (E_R_baseAt g) Tryz.f91 code_91 0 [] [.asis] g.N) := by intro args; unfold SS_R_baseAt; split; exact .inr fun R k => (by kernel_rfl); exact .inl fun R k => rfl
theorem ok_R_baseAt [Fuel] : Ok 91 (SS_R_baseAt (@R_baseAt _)) := okF_of std (.cons ok_strings_LastIndexAny (.cons ok_R_plain (.cons ok_R_in (.cons ok_strings_ContainsAny .nil)))) ⟨rfl, rfl, by kernel_rfl, rfl, rfl⟩ (sm_R_baseAt I_R_baseAt) (cuts0 (fun _ => rfl) (by kernel_rfl)) Tryz.func91 (by kernel_rfl) (by kernel_rfl)
abbrev T_R_PartsOf_1 : Type 1 := List UInt8 → {R : Type} → (G_Parts → Option R) → Option R
structure C_R_PartsOf_1 where
  N : Nat
  R_baseAt : T_R_baseAt
def R_PartsOf_1_ (g : C_R_PartsOf_1) (a1 : List UInt8) {R : Type} (k0 : G_Parts → Option R) : Option R :=
  (g.R_baseAt a1 (fun r2 => (bif (decide (0 ≤ (w64 (r2 + 1))) && decide ((w64 (r2 + 1)) ≤ (a1.length : Int))) then (bif (decide (0 ≤ (w64 (r2 + 1))) && decide ((w64 (r2 + 1)) ≤ (a1.length : Int))) then k0 (⟨a1, (a1.take ((w64 (r2 + 1)) : Int).toNat), (a1.drop ((w64 (r2 + 1)) : Int).toNat), 0, []⟩ : G_Parts) else none) else none)))
def I_R_PartsOf_1 [Fuel] : C_R_PartsOf_1 := ⟨NN, @R_baseAt _⟩
def R_PartsOf_1 [Fuel] : T_R_PartsOf_1 := @R_PartsOf_1_ I_R_PartsOf_1
def SS_R_PartsOf_1 (g : T_R_PartsOf_1) : Spec A := fun args => match args with | [.d (.str a1)] => fun k => g a1 (fun z0 => k (.agg [.d (.str z0.f_Base), .d (.str z0.f_Prefix), .d (.str z0.f_Suffix), .d (.int .i64 z0.f_Kind), .d (.str z0.f_Added)]) [.undef]) | _ => fun _ => none
noncomputable def code_90 : Code := (Tryz.f90.body).getD .skip
noncomputable def E_R_PartsOf_1 (g : C_R_PartsOf_1) : Env A := mkE [(91, SS_R_baseAt g.R_baseAt)] [(2, [0])] [] [] [] [] [] [] [] []
theorem sm_R_PartsOf_1 (g : C_R_PartsOf_1) : Same (SS_R_PartsOf_1 (@R_PartsOf_1_ g)) (abody (E_R_PartsOf_1 g) Tryz.f90 code_90 1 [] [.asis] g.N) := by intro args; unfold SS_R_PartsOf_1; split; exact .inr fun R k => (by kernel_rfl); exact .inl fun R k => rfl
theorem ok_R_PartsOf_1 [Fuel] : Ok 90 (SS_R_PartsOf_1 (@R_PartsOf_1 _)) := okF_of std (.cons ok_R_baseAt .nil) ⟨rfl, rfl, by kernel_rfl, rfl, rfl⟩ (sm_R_PartsOf_1 I_R_PartsOf_1) (cuts0 (fun _ => rfl) (by kernel_rfl)) Tryz.func90 (by kernel_rfl) (by kernel_rfl)
abbrev T_R_begin : Type 1 := List UInt8 → {R : Type} → (Bool → Option R) → Option R
structure C_R_begin where
  N : Nat
  R_plain : T_R_plain
def R_begin_ (g : C_R_begin) (a1 : List UInt8) {R : Type} (k0 : Bool → Option R) : Option R :=
  (g.R_plain a1 1 4 (fun r2 => k0 r2))
def I_R_begin [Fuel] : C_R_begin := ⟨NN, @R_plain _⟩
def R_begin [Fuel] : T_R_begin := @R_begin_ I_R_begin
def SS_R_begin (g : T_R_begin) : Spec A := fun args => match args with | [.d (.str a1)] => fun k => g a1 (fun z0 => k (.d (.bool z0)) [.undef]) | _ => fun _ => none
noncomputable def code_92 : Code := (Tryz.f92.body).getD .skip
noncomputable def E_R_begin (g : C_R_begin) : Env A := mkE [(110, SS_R_plain g.R_plain)] [] [] [] [] [] [] [] [] []
theorem sm_R_begin (g : C_R_begin) : Same (SS_R_begin (@R_begin_ g)) (abody (E_R_begin g) Tryz.f92 code_92 0 [] [.asis] g.N) := by intro args; unfold SS_R_begin; split; exact .inr fun R k => (by kernel_rfl); exact .inl fun R k => rfl
theorem ok_R_begin [Fuel] : Ok 92 (SS_R_begin (@R_begin _)) := okF_of std (.cons ok_R_plain .nil) ⟨rfl, rfl, by kernel_rfl, rfl, rfl⟩ (sm_R_begin I_R_begin) (cuts0 (fun _ => rfl) (by kernel_rfl)) Tryz.func92 (by kernel_rfl) (by kernel_rfl)
abbrev T_strings_Index : Type 1 := List UInt8 → List UInt8 → {R : Type} → (Int → Option R) → Option R
structure C_strings_Index where
  N : Nat
  stringslite_Index : T_stringslite_Index
def strings_Index_ (g : C_strings_Index) (a1 a2 : List UInt8) {R : Type} (k0 : Int → Option R) : Option R :=
  (g.stringslite_Index a1 a2 (fun r3 => k0 r3))
def I_strings_Index [Fuel] : C_strings_Index := ⟨NN, @stringslite_Index _⟩
def strings_Index [Fuel] : T_strings_Index := @strings_Index_ I_strings_Index
def SS_strings_Index (g : T_strings_Index) : Spec A := fun args => match args with | [.d (.str a1), .d (.str a2)] => fun k => g a1 a2 (fun z0 => k (.d (.int .i64 z0)) [.undef, .undef]) | _ => fun _ => none
noncomputable def code_113 : Code := (Tryz.f113.body).getD .skip
noncomputable def E_strings_Index (g : C_strings_Index) : Env A := mkE [(123, SS_stringslite_Index g.stringslite_Index)] [] [] [] [] [] [] [] [] []
theorem sm_strings_Index (g : C_strings_Index) : Same (SS_strings_Index (@strings_Index_ g)) (abody (E_strings_Index g) Tryz.f113 code_113 0 [] [.asis] g.N) := by intro args; unfold SS_strings_Index; split; exact .inr fun R k => (by kernel_rfl); exact .inl fun R k => rfl
theorem ok_strings_Index [Fuel] : Ok 113 (SS_strings_Index (@strings_Index _)) := okF_of std (.cons ok_stringslite_Index .nil) ⟨rfl, rfl, by kernel_rfl, rfl, rfl⟩ (sm_strings_Index I_strings_Index) (cuts0 (fun _ => rfl) (by kernel_rfl)) Tryz.func113 (by kernel_rfl) (by kernel_rfl)
abbrev T_strings_Contains : Type 1 := List UInt8 → List UInt8 → {R : Type} → (Bool → Option R) → Option R
structure C_strings_Contains where
  N : Nat
  strings_Index : T_strings_Index
def strings_Contains_ (g : C_strings_Contains) (a1 a2 : List UInt8) {R : Type} (k0 : Bool → Option R) : Option R :=
  (g.strings_Index a1 a2 (fun r3 => k0 (decide (r3 ≥ 0))))
def I_strings_Contains [Fuel] : C_strings_Contains := ⟨NN, @strings_Index _⟩
def strings_Contains [Fuel] : T_strings_Contains := @strings_Contains_ I_strings_Contains
def SS_strings_Contains (g : T_strings_Contains) : Spec A := fun args => match args with | [.d (.str a1), .d (.str a2)] => fun k => g a1 a2 (fun z0 => k (.d (.bool z0)) [.undef, .undef]) | _ => fun _ => none
noncomputable def code_93 : Code := (Tryz.f93.body).getD .skip
noncomputable def E_strings_Contains (g : C_strings_Contains) : Env A := mkE [(113, SS_strings_Index g.strings_Index)] [] [] [] [] [] [] [] [] []
theorem sm_strings_Contains (g : C_strings_Contains) : Same (SS_strings_Contains (@strings_Contains_ g)) (abody (E_strings_Contains g) Tryz.f93 code_93 0 [] [.asis] g.N) := by intro args; unfold SS_strings_Contains; split; exact .inr fun R k => (by kernel_rfl); exact .inl fun R k => rfl
theorem ok_strings_Contains [Fuel] : Ok 93 (SS_strings_Contains (@strings_Contains _)) := okF_of std (.cons ok_strings_Index .nil) ⟨rfl, rfl, by kernel_rfl, rfl, rfl⟩ (sm_strings_Contains I_strings_Contains) (cuts0 (fun _ => rfl) (by kernel_rfl)) Tryz.func93 (by kernel_rfl) (by kernel_rfl)
abbrev T_R_PartsOf : Type 1 := List UInt8 → {R : Type} → (G_Parts → Bool → Option R) → Option R
structure C_R_PartsOf where
  N : Nat
  strings_Cut : T_strings_Cut
  R_PartsOf_1 : T_R_PartsOf_1
  R_baseAt : T_R_baseAt
  R_begin : T_R_begin
  strings_Contains : T_strings_Contains
def R_PartsOf_ (g : C_R_PartsOf) (a1 : List UInt8) {R : Type} (k0 : G_Parts → Bool → Option R) : Option R :=
  (g.strings_Cut a1 [47] (fun r2 r3 r4 => (bif (decide ((a1.length : Int) > 14)) then k0 (⟨[], [], [], 0, []⟩ : G_Parts) false else (bif (!r4) then (g.R_baseAt r2 (fun r5 => (bif (decide (r5 < 0)) then k0 (⟨[], [], [], 0, []⟩ : G_Parts) false else (g.R_PartsOf_1 r2 (fun r6 => k0 r6 true))))) else (g.R_baseAt r3 (fun r7 => (bif (decide (r7 ≥ 0)) then (g.R_begin r2 (fun r8 => (bif r8 then (g.R_PartsOf_1 r3 (fun r9 => k0 (⟨r9.f_Base, r9.f_Prefix, r9.f_Suffix, 1, r2⟩ : G_Parts) true)) else (g.R_baseAt r2 (fun r10 => (bif (decide (r10 < 0)) then k0 (⟨[], [], [], 0, []⟩ : G_Parts) false else (g.R_PartsOf_1 r2 (fun r11 => (bif (r3 == [112]) then k0 (⟨r11.f_Base, r11.f_Prefix, r11.f_Suffix, 3, r11.f_Added⟩ : G_Parts) true else (bif (r3 == [109]) then k0 (⟨r11.f_Base, r11.f_Prefix, r11.f_Suffix, 4, r11.f_Added⟩ : G_Parts) true else (bif (r3 == [109, 109]) then k0 (⟨r11.f_Base, r11.f_Prefix, r11.f_Suffix, 5, r11.f_Added⟩ : G_Parts) true else (bif (r3 == [97, 109]) then k0 (⟨r11.f_Base, r11.f_Prefix, r11.f_Suffix, 6, r11.f_Added⟩ : G_Parts) true else (bif ((r3.length : Int) == 1) then (g.strings_Contains [48, 49, 50, 51, 52, 53, 54, 55, 56, 57] r3 (fun r12 => (bif r12 then k0 (⟨r11.f_Base, r11.f_Prefix, r11.f_Suffix, 2, r3⟩ : G_Parts) true else (g.R_begin r3 (fun r13 => (bif r13 then k0 (⟨r11.f_Base, r11.f_Prefix, r11.f_Suffix, 1, r3⟩ : G_Parts) true else k0 (⟨[], [], [], 0, []⟩ : G_Parts) false)))))) else (g.R_begin r3 (fun r14 => (bif r14 then k0 (⟨r11.f_Base, r11.f_Prefix, r11.f_Suffix, 1, r3⟩ : G_Parts) true else k0 (⟨[], [], [], 0, []⟩ : G_Parts) false)))))))))))))))) else (g.R_baseAt r2 (fun r15 => (bif (decide (r15 < 0)) then k0 (⟨[], [], [], 0, []⟩ : G_Parts) false else (g.R_PartsOf_1 r2 (fun r16 => (bif (r3 == [112]) then k0 (⟨r16.f_Base, r16.f_Prefix, r16.f_Suffix, 3, r16.f_Added⟩ : G_Parts) true else (bif (r3 == [109]) then k0 (⟨r16.f_Base, r16.f_Prefix, r16.f_Suffix, 4, r16.f_Added⟩ : G_Parts) true else (bif (r3 == [109, 109]) then k0 (⟨r16.f_Base, r16.f_Prefix, r16.f_Suffix, 5, r16.f_Added⟩ : G_Parts) true else (bif (r3 == [97, 109]) then k0 (⟨r16.f_Base, r16.f_Prefix, r16.f_Suffix, 6, r16.f_Added⟩ : G_Parts) true else (bif ((r3.length : Int) == 1) then (g.strings_Contains [48, 49, 50, 51, 52, 53, 54, 55, 56, 57] r3 (fun r17 => (bif r17 then k0 (⟨r16.f_Base, r16.f_Prefix, r16.f_Suffix, 2, r3⟩ : G_Parts) true else (g.R_begin r3 (fun r18 => (bif r18 then k0 (⟨r16.f_Base, r16.f_Prefix, r16.f_Suffix, 1, r3⟩ : G_Parts) true else k0 (⟨[], [], [], 0, []⟩ : G_Parts) false)))))) else (g.R_begin r3 (fun r19 => (bif r19 then k0 (⟨r16.f_Base, r16.f_Prefix, r16.f_Suffix, 1, r3⟩ : G_Parts) true else k0 (⟨[], [], [], 0, []⟩ : G_Parts) false))))))))))))))))))))
def I_R_PartsOf [Fuel] : C_R_PartsOf := ⟨NN, @strings_Cut _, @R_PartsOf_1 _, @R_baseAt _, @R_begin _, @strings_Contains _⟩
def R_PartsOf [Fuel] : T_R_PartsOf := @R_PartsOf_ I_R_PartsOf
def SS_R_PartsOf (g : T_R_PartsOf) : Spec A := fun args => match args with | [.d (.str a1)] => fun k => g a1 (fun z0 z1 => k (.tup [.agg [.d (.str z0.f_Base), .d (.str z0.f_Prefix), .d (.str z0.f_Suffix), .d (.int .i64 z0.f_Kind), .d (.str z0.f_Added)], .d (.bool z1)]) [.undef]) | _ => fun _ => none
noncomputable def code_77 : Code := (Tryz.f77.body).getD .skip
noncomputable def E_R_PartsOf (g : C_R_PartsOf) : Env A := mkE [(89, SS_strings_Cut g.strings_Cut), (90, SS_R_PartsOf_1 g.R_PartsOf_1), (91, SS_R_baseAt g.R_baseAt), (92, SS_R_begin g.R_begin), (93, SS_strings_Contains g.strings_Contains)] [(2, [0]), (8, [1]), (9, [2])] [] [] [] [] [] [] [] []
theorem sm_R_PartsOf (g : C_R_PartsOf) : Same (SS_R_PartsOf (@R_PartsOf_ g)) (abody (E_R_PartsOf g) Tryz.f77 code_77 3 [] [.asis, .asis] g.N) := by intro args; unfold SS_R_PartsOf; split; exact .inr fun R k => (by kernel_rfl); exact .inl fun R k => rfl
theorem ok_R_PartsOf [Fuel] : Ok 77 (SS_R_PartsOf (@R_PartsOf _)) := okF_of std (.cons ok_strings_Cut (.cons ok_R_PartsOf_1 (.cons ok_R_baseAt (.cons ok_R_begin (.cons ok_strings_Contains .nil))))) ⟨rfl, rfl, by kernel_rfl, rfl, rfl⟩ (sm_R_PartsOf I_R_PartsOf) (cuts0 (fun _ => rfl) (by kernel_rfl)) Tryz.func77 (by kernel_rfl) (by kernel_rfl)
abbrev T_Q_Call : Type 1 := List UInt8 → {R : Type} → (Bool → Option R) → Option R
structure C_Q_Call where
  N : Nat
  R_PartsOf : T_R_PartsOf
def Q_Call_ (g : C_Q_Call) (a1 : List UInt8) {R : Type} (k0 : Bool → Option R) : Option R :=
  (g.R_PartsOf a1 (fun r2 r3 => k0 r3))
def I_Q_Call [Fuel] : C_Q_Call := ⟨NN, @R_PartsOf _⟩
def Q_Call [Fuel] : T_Q_Call := @Q_Call_ I_Q_Call
def SS_Q_Call (g : T_Q_Call) : Spec A := fun args => match args with | [.d (.str a1)] => fun k => g a1 (fun z0 => k (.d (.bool z0)) [.undef]) | _ => fun _ => none
noncomputable def code_71 : Code := (Tryz.f71.body).getD .skip
noncomputable def E_Q_Call (g : C_Q_Call) : Env A := mkE [(77, SS_R_PartsOf g.R_PartsOf)] [(3, [0])] [] [] [] [] [] [] [] []
theorem sm_Q_Call (g : C_Q_Call) : Same (SS_Q_Call (@Q_Call_ g)) (abody (E_Q_Call g) Tryz.f71 code_71 1 [] [.asis] g.N) := by intro args; unfold SS_Q_Call; split; exact .inr fun R k => (by kernel_rfl); exact .inl fun R k => rfl
theorem ok_Q_Call [Fuel] : Ok 71 (SS_Q_Call (@Q_Call _)) := okF_of std (.cons ok_R_PartsOf .nil) ⟨rfl, rfl, by kernel_rfl, rfl, rfl⟩ (sm_Q_Call I_Q_Call) (cuts0 (fun _ => rfl) (by kernel_rfl)) Tryz.func71 (by kernel_rfl) (by kernel_rfl)
abbrev T_Q_ContactFault : Type 1 := G_Contact → {R : Type} → (Int → Option R) → Option R
structure C_Q_ContactFault where
  N : Nat
  Q_in : T_Q_in
  Q_Moment : T_Q_Moment
  Q_Key : T_Q_Key
  Q_Call : T_Q_Call
def Q_ContactFault_ (g : C_Q_ContactFault) (a1 : G_Contact) {R : Type} (k0 : Int → Option R) : Option R :=
  (g.Q_Moment a1.f_At (fun r2 => (bif (!r2) then k0 1 else (g.Q_in a1.f_Mode 1 3 (fun r3 => (bif (!r3) then k0 4 else (g.Q_Key a1.f_Band (fun r4 => (bif (!r4) then k0 5 else (g.Q_Call a1.f_Call (fun r5 => (bif (!r5) then k0 3 else (g.Q_in a1.f_Sent 0 99999 (fun r6 => (bif (!r6) then k0 1 else (g.Q_in a1.f_Heard 0 99999 (fun r7 => (bif (!r7) then k0 1 else (bif (!(a1.f_Gave == [])) then (g.Q_Key a1.f_Gave (fun r8 => (bif (!r8) then k0 5 else (bif (!(a1.f_Got == [])) then (g.Q_Key a1.f_Got (fun r9 => (bif (!r9) then k0 5 else k0 0))) else k0 0)))) else (bif (!(a1.f_Got == [])) then (g.Q_Key a1.f_Got (fun r10 => (bif (!r10) then k0 5 else k0 0))) else k0 0))))))))))))))))))))
def I_Q_ContactFault [Fuel] : C_Q_ContactFault := ⟨NN, @Q_in _, @Q_Moment _, @Q_Key _, @Q_Call _⟩
def Q_ContactFault [Fuel] : T_Q_ContactFault := @Q_ContactFault_ I_Q_ContactFault
def SS_Q_ContactFault (g : T_Q_ContactFault) : Spec A := fun args => match args with | [.agg [.d (.int .i64 a1), .d (.int .i64 a2), .d (.str a3), .d (.str a4), .d (.int .i64 a5), .d (.int .i64 a6), .d (.str a7), .d (.str a8)]] => fun k => g ⟨a1, a2, a3, a4, a5, a6, a7, a8⟩ (fun z0 => k (.d (.int .i64 z0)) [.undef]) | _ => fun _ => none
noncomputable def code_36 : Code := (Tryz.f36.body).getD .skip
noncomputable def E_Q_ContactFault (g : C_Q_ContactFault) : Env A := mkE [(47, SS_Q_in g.Q_in), (69, SS_Q_Moment g.Q_Moment), (70, SS_Q_Key g.Q_Key), (71, SS_Q_Call g.Q_Call)] [(1, [0])] [] [] [] [] [] [] [] []
theorem sm_Q_ContactFault (g : C_Q_ContactFault) : Same (SS_Q_ContactFault (@Q_ContactFault_ g)) (abody (E_Q_ContactFault g) Tryz.f36 code_36 1 [] [.asis] g.N) := by intro args; unfold SS_Q_ContactFault; split; exact .inr fun R k => (by kernel_rfl); exact .inl fun R k => rfl
theorem ok_Q_ContactFault [Fuel] : Ok 36 (SS_Q_ContactFault (@Q_ContactFault _)) := okF_of std (.cons ok_Q_in (.cons ok_Q_Moment (.cons ok_Q_Key (.cons ok_Q_Call .nil)))) ⟨rfl, rfl, by kernel_rfl, rfl, rfl⟩ (sm_Q_ContactFault I_Q_ContactFault) (cuts0 (fun _ => rfl) (by kernel_rfl)) Tryz.func36 (by kernel_rfl) (by kernel_rfl)
abbrev T_Q_LogFault : Type 1 := List G_Contact → {R : Type} → (Int → Option R) → Option R
structure C_Q_LogFault where
  N : Nat
  Q_ContactFault : T_Q_ContactFault
  Q_ContactOrder : T_Q_ContactOrder
def Q_LogFault_L4 (g : C_Q_LogFault) : Nat → List G_Contact → List G_Contact → Int → Int → {R : Type} → (Int → Option R) → Option R → Option R
  | 0, _, _, _, _, _, _, _ => none
  | n + 1, v2, v3, v4, v5, _, e0, e1 => (bif (decide (v5 < v4)) then (get_ v3 v5 fun x10 => (g.Q_ContactFault x10 (fun r11 => (bif (r11 != 0) then e0 r11 else (bif (decide (v5 > 0)) then (get_ v2 (w64 (v5 - 1)) fun x12 => (g.Q_ContactOrder x12 x10 (fun r13 => (bif (decide (r13 ≥ 0)) then e0 7 else Q_LogFault_L4 g n v2 v3 v4 (w64 (v5 + 1)) e0 e1)))) else Q_LogFault_L4 g n v2 v3 v4 (w64 (v5 + 1)) e0 e1))))) else e1)
def Q_LogFault_ (g : C_Q_LogFault) (a1 : List G_Contact) {R : Type} (k0 : Int → Option R) : Option R :=
  (bif (decide ((a1.length : Int) > 2000)) then k0 2 else (Q_LogFault_L4 g g.N a1 a1 (a1.length : Int) 0 (fun e14 => k0 e14) (k0 0)))
def I_Q_LogFault [Fuel] : C_Q_LogFault := ⟨NN, @Q_ContactFault _, @Q_ContactOrder _⟩
def Q_LogFault [Fuel] : T_Q_LogFault := @Q_LogFault_ I_Q_LogFault
def SS_Q_LogFault (g : T_Q_LogFault) : Spec A := fun args => match args with | [.d (.sl 58 a1)] => fun k => g a1 (fun z0 => k (.d (.int .i64 z0)) [.undef]) | _ => fun _ => none
def sh_Q_LogFault_L4 : SSt := mkSh 34 1 [(0, .sl 58), (9, .sl 58), (10, .int .i64), (11, .int .i64)] []
def LP_Q_LogFault_L4 (g : C_Q_LogFault) (n : Nat) : LPT A := fun ps => match ps with | [.d (.sl 58 p1), .d (.sl 58 p2), .d (.int .i64 p3), .d (.int .i64 p4)] => fun K => Q_LogFault_L4 g n p1 p2 p3 p4 (fun z0 => K .ret (mkSt 34 1 [(2, .d (.int .i64 z0))] [])) (K (.exit 0) (mkSt 34 1 [] [])) | _ => fun _ => none
noncomputable def code_14 : Code := (Tryz.f14.body).getD .skip
noncomputable def E_Q_LogFault (g : C_Q_LogFault) : Env A := mkE [(36, SS_Q_ContactFault g.Q_ContactFault), (39, SS_Q_ContactOrder g.Q_ContactOrder)] [(4, [0])] [(4, ⟨[0, 9, 10, 11], [], [], []⟩)] [(4, ⟨[2], [], [], []⟩)] [(4, pieceOf sh_Q_LogFault_L4 (LP_Q_LogFault_L4 g g.N))] [] [] [] [] []
theorem ct_Q_LogFault [Fuel] : NatTab (E_Q_LogFault I_Q_LogFault).C := ct_of (P := Tryz.prog) (T := T) (.cons ok_Q_ContactFault (.cons ok_Q_ContactOrder .nil)) (by kernel_rfl)
noncomputable def cb_Q_LogFault_L4 : Code := sub [1, 1, 0, 1, 0, 0] code_14
theorem s_Q_LogFault_L4 (g : C_Q_LogFault) (n : Nat) : StepOk (E_Q_LogFault g) g.N cb_Q_LogFault_L4 sh_Q_LogFault_L4 (LP_Q_LogFault_L4 g) n := by intro ps; unfold LP_Q_LogFault_L4; split; exact .inr fun R K => (by kernel_rfl); exact .inl fun R K => rfl
theorem lf_Q_LogFault_L4 [Fuel] : LoopFine (E_Q_LogFault I_Q_LogFault) NN cb_Q_LogFault_L4 := fine_loop sh_Q_LogFault_L4 (LP_Q_LogFault_L4 I_Q_LogFault) (by kernel_rfl) ct_Q_LogFault (cuts0 (fun _ => rfl) (by kernel_rfl)) (fun ps R K => by unfold LP_Q_LogFault_L4; split <;> (try unfold Q_LogFault_L4) <;> rfl) (s_Q_LogFault_L4 I_Q_LogFault)
theorem sm_Q_LogFault (g : C_Q_LogFault) : Same (SS_Q_LogFault (@Q_LogFault_ g)) (abody (E_Q_LogFault g) Tryz.f14 code_14 1 [] [.asis] g.N) := by intro args; unfold SS_Q_LogFault; split; exact .inr fun R k => (by kernel_rfl); exact .inl fun R k => rfl
theorem ok_Q_LogFault [Fuel] : Ok 14 (SS_Q_LogFault (@Q_LogFault _)) := okF_of std (.cons ok_Q_ContactFault (.cons ok_Q_ContactOrder .nil)) ⟨rfl, rfl, by kernel_rfl, rfl, rfl⟩ (sm_Q_LogFault I_Q_LogFault) (cutsL (fun _ => rfl) (.cons lf_Q_LogFault_L4 .nil) (by kernel_rfl)) Tryz.func14 (by kernel_rfl) (by kernel_rfl)
abbrev T_law_errs : Type 1 := List Int → {R : Type} → (Int → Option R) → Option R
def law_errs_L2 (g : Nat) : Nat → List Int → Int → Int → {R : Type} → (Int → Option R) → Option R → Option R
  | 0, _, _, _, _, _, _ => none
  | n + 1, v2, v3, v4, _, e0, e1 => (bif (decide (v4 < v3)) then (get_ v2 v4 fun x6 => (bif (x6 != 0) then e0 x6 else law_errs_L2 g n v2 v3 (w64 (v4 + 1)) e0 e1)) else e1)
def law_errs_ (g : Nat) (a1 : List Int) {R : Type} (k0 : Int → Option R) : Option R :=
  (law_errs_L2 g g a1 (a1.length : Int) 0 (fun e7 => k0 e7) (k0 0))
def law_errs [Fuel] : T_law_errs := @law_errs_ NN
def SS_law_errs (g : T_law_errs) : Spec A := fun args => match args with | [.d (.sl 34 a1)] => fun k => g a1 (fun z0 => k (.d (.int .i64 z0)) [.undef]) | _ => fun _ => none
def sh_law_errs_L2 : SSt := mkSh 15 0 [(5, .sl 34), (6, .int .i64), (7, .int .i64)] []
def LP_law_errs_L2 (g : Nat) (n : Nat) : LPT A := fun ps => match ps with | [.d (.sl 34 p1), .d (.int .i64 p2), .d (.int .i64 p3)] => fun K => law_errs_L2 g n p1 p2 p3 (fun z0 => K .ret (mkSt 15 0 [(2, .d (.int .i64 z0))] [])) (K (.exit 0) (mkSt 15 0 [] [])) | _ => fun _ => none
noncomputable def code_15 : Code := (Tryz.f15.body).getD .skip
noncomputable def E_law_errs (g : Nat) : Env A := mkE [] [] [(2, ⟨[5, 6, 7], [], [], []⟩)] [(2, ⟨[2], [], [], []⟩)] [(2, pieceOf sh_law_errs_L2 (LP_law_errs_L2 g g))] [] [] [] [] []
theorem ct_law_errs [Fuel] : NatTab (E_law_errs NN).C := ct_of (P := Tryz.prog) (T := T) .nil (by kernel_rfl)
noncomputable def cb_law_errs_L2 : Code := sub [1, 0, 1, 0, 0] code_15
theorem s_law_errs_L2 (g : Nat) (n : Nat) : StepOk (E_law_errs g) g cb_law_errs_L2 sh_law_errs_L2 (LP_law_errs_L2 g) n := by intro ps; unfold LP_law_errs_L2; split; exact .inr fun R K => (by kernel_rfl); exact .inl fun R K => rfl
theorem lf_law_errs_L2 [Fuel] : LoopFine (E_law_errs NN) NN cb_law_errs_L2 := fine_loop sh_law_errs_L2 (LP_law_errs_L2 NN) (by kernel_rfl) ct_law_errs (cuts0 (fun _ => rfl) (by kernel_rfl)) (fun ps R K => by unfold LP_law_errs_L2; split <;> (try unfold law_errs_L2) <;> rfl) (s_law_errs_L2 NN)
theorem sm_law_errs (g : Nat) : Same (SS_law_errs (@law_errs_ g)) (abody (E_law_errs g) Tryz.f15 code_15 0 [] [.asis] g) := by intro args; unfold SS_law_errs; split; exact .inr fun R k => (by kernel_rfl); exact .inl fun R k => rfl
theorem ok_law_errs [Fuel] : Ok 15 (SS_law_errs (@law_errs _)) := okF_of std .nil ⟨rfl, rfl, by kernel_rfl, rfl, rfl⟩ (sm_law_errs NN) (cutsL (fun _ => rfl) (.cons lf_law_errs_L2 .nil) (by kernel_rfl)) Tryz.func15 (by kernel_rfl) (by kernel_rfl)
abbrev T_Q_LogsOf : Type 1 := List G_Contact → List G_Contact → {R : Type} → (List G_Contact → Int → Option R) → Option R
structure C_Q_LogsOf where
  N : Nat
  slices_SortStableFunc__Contact_Q_ContactOrder : T_slices_SortStableFunc__Contact_Q_ContactOrder
  Q_ContactOrder : T_Q_ContactOrder
  slices_Concat__Contact : T_slices_Concat__Contact
  slices_Compact__Contact : T_slices_Compact__Contact
def Q_LogsOf_L5 (g : C_Q_LogsOf) : Nat → Int → Int → List G_Contact → {R : Type} → (Int → List G_Contact → Option R) → (List G_Contact → Option R) → Option R
  | 0, _, _, _, _, _, _ => none
  | n + 1, v6, v7, v8, _, e0, e1 => (bif (decide (v7 < v6)) then (bif (decide (v7 > 0)) then (inr v8 (w64 (v7 - 1)) (at_ v8 (w64 (v7 - 1)) fun x12 => (inr v8 v7 (at_ v8 v7 fun x13 => (g.Q_ContactOrder x12 x13 (fun r14 => (bif (r14 == 0) then e0 13 v8 else Q_LogsOf_L5 g n v6 (w64 (v7 + 1)) v8 e0 e1))))))) else Q_LogsOf_L5 g n v6 (w64 (v7 + 1)) v8 e0 e1) else e1 v8)
def Q_LogsOf_ (g : C_Q_LogsOf) (a1 a2 : List G_Contact) {R : Type} (k0 : List G_Contact → Int → Option R) : Option R :=
  (g.slices_Concat__Contact [a1, a2] (fun r3 => (g.slices_SortStableFunc__Contact_Q_ContactOrder r3 (fun r4 => (g.slices_Compact__Contact r4 (fun r5 => (Q_LogsOf_L5 g g.N (r5.length : Int) 0 r5 (fun e15 e16 => k0 [] e15) (fun e17 => (bif (decide ((e17.length : Int) > 2000)) then k0 [] 2 else k0 e17 0)))))))))
def I_Q_LogsOf [Fuel] : C_Q_LogsOf := ⟨NN, @slices_SortStableFunc__Contact_Q_ContactOrder _, @Q_ContactOrder _, @slices_Concat__Contact _, @slices_Compact__Contact _⟩
def Q_LogsOf [Fuel] : T_Q_LogsOf := @Q_LogsOf_ I_Q_LogsOf
def SS_Q_LogsOf (g : T_Q_LogsOf) : Spec A := fun args => match args with | [.d (.sl 58 a1), .d (.sl 58 a2)] => fun k => g a1 a2 (fun z0 z1 => k (.tup [.arr 58 z0, .d (.int .i64 z1)]) [.undef, .undef]) | _ => fun _ => none
def sh_Q_LogsOf_L5 : SSt := mkSh 41 3 [(6, .own 58 2), (17, .int .i64), (18, .int .i64)] [(2, .row 58)]
def LP_Q_LogsOf_L5 (g : C_Q_LogsOf) (n : Nat) : LPT A := fun ps => match ps with | [.d (.int .i64 p1), .d (.int .i64 p2), .d (.sl 58 p3)] => fun K => Q_LogsOf_L5 g n p1 p2 p3 (fun z0 z1 => K .ret (mkSt 41 3 [(4, .d .nsl), (5, .d (.int .i64 z0)), (6, .own 58 2)] [(2, some (.row 58 z1))])) (fun z0 => K (.exit 0) (mkSt 41 3 [(6, .own 58 2)] [(2, some (.row 58 z0))])) | _ => fun _ => none
noncomputable def code_33 : Code := (Tryz.f33.body).getD .skip
noncomputable def E_Q_LogsOf (g : C_Q_LogsOf) : Env A := mkE [(38, SS_slices_SortStableFunc__Contact_Q_ContactOrder g.slices_SortStableFunc__Contact_Q_ContactOrder), (39, SS_Q_ContactOrder g.Q_ContactOrder), (57, SS_slices_Concat__Contact g.slices_Concat__Contact), (59, SS_slices_Compact__Contact g.slices_Compact__Contact)] [(10, [0]), (11, [1]), (15, [2])] [(5, ⟨[6, 17, 18], [], [2], []⟩)] [(5, ⟨[4, 5, 6], [], [2], []⟩)] [(5, pieceOf sh_Q_LogsOf_L5 (LP_Q_LogsOf_L5 g g.N))] [] [] [] [(38, 0), (59, 0)] []
theorem ct_Q_LogsOf [Fuel] : NatTab (E_Q_LogsOf I_Q_LogsOf).C := ct_of (P := Tryz.prog) (T := T) (.cons ok_slices_SortStableFunc__Contact_Q_ContactOrder (.cons ok_Q_ContactOrder (.cons ok_slices_Concat__Contact (.cons ok_slices_Compact__Contact .nil)))) (by kernel_rfl)
noncomputable def cb_Q_LogsOf_L5 : Code := sub [1, 1, 1, 1, 0, 1, 0, 0] code_33
theorem s_Q_LogsOf_L5 (g : C_Q_LogsOf) (n : Nat) : StepOk (E_Q_LogsOf g) g.N cb_Q_LogsOf_L5 sh_Q_LogsOf_L5 (LP_Q_LogsOf_L5 g) n := by intro ps; unfold LP_Q_LogsOf_L5; split; exact .inr fun R K => (by kernel_rfl); exact .inl fun R K => rfl
theorem lf_Q_LogsOf_L5 [Fuel] : LoopFine (E_Q_LogsOf I_Q_LogsOf) NN cb_Q_LogsOf_L5 := fine_loop sh_Q_LogsOf_L5 (LP_Q_LogsOf_L5 I_Q_LogsOf) (by kernel_rfl) ct_Q_LogsOf (cuts0 (fun _ => rfl) (by kernel_rfl)) (fun ps R K => by unfold LP_Q_LogsOf_L5; split <;> (try unfold Q_LogsOf_L5) <;> rfl) (s_Q_LogsOf_L5 I_Q_LogsOf)
theorem sm_Q_LogsOf (g : C_Q_LogsOf) : Same (SS_Q_LogsOf (@Q_LogsOf_ g)) (abody (E_Q_LogsOf g) Tryz.f33 code_33 3 [] [.arr 58, .asis] g.N) := by intro args; unfold SS_Q_LogsOf; split; exact .inr fun R k => (by kernel_rfl); exact .inl fun R k => rfl
theorem ok_Q_LogsOf [Fuel] : Ok 33 (SS_Q_LogsOf (@Q_LogsOf _)) := okF_of std (.cons ok_slices_SortStableFunc__Contact_Q_ContactOrder (.cons ok_Q_ContactOrder (.cons ok_slices_Concat__Contact (.cons ok_slices_Compact__Contact .nil)))) ⟨rfl, rfl, by kernel_rfl, rfl, rfl⟩ (sm_Q_LogsOf I_Q_LogsOf) (cutsL (fun _ => rfl) (.cons lf_Q_LogsOf_L5 .nil) (by kernel_rfl)) Tryz.func33 (by kernel_rfl) (by kernel_rfl)
end Go.Am
