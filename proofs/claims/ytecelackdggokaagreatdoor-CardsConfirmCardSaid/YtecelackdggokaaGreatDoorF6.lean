/- The functions of the program as Lean functions, each shown to be what the code computes, part 6. No condition: lemmas for the claim. -/
import Derived.Test.YtecelackdggokaaGreatDoorF0
import Derived.Test.YtecelackdggokaaGreatDoorFSh
import Derived.Test.YtecelackdggokaaGreatDoorF4
import Derived.Test.YtecelackdggokaaGreatDoorF5
set_option linter.unusedVariables false
set_option maxRecDepth 100000
namespace Go.Am
open Go Go.Proofs
abbrev T_slices_IndexFunc__Card_Q_OwedBy_1 : Type 1 := List G_Card → Int → G_Card → {R : Type} → (Int → Int → G_Card → Option R) → Option R
structure C_slices_IndexFunc__Card_Q_OwedBy_1 where
  N : Nat
  Q_OwedBy_1 : T_Q_OwedBy_1
def slices_IndexFunc__Card_Q_OwedBy_1_L2 (g : C_slices_IndexFunc__Card_Q_OwedBy_1) : Nat → List G_Card → Int → Int → Int → G_Card → {R : Type} → (Int → Int → G_Card → Option R) → (Int → G_Card → Option R) → Option R
  | 0, _, _, _, _, _, _, _, _ => none
  | n + 1, v4, v5, v6, v7, v8, _, e0, e1 => (bif (decide (v6 < v5)) then (get_ v4 v6 fun x13 => (g.Q_OwedBy_1 x13 v7 v8 (fun r14 r15 r16 => (bif r14 then e0 v6 r15 r16 else slices_IndexFunc__Card_Q_OwedBy_1_L2 g n v4 v5 (w64 (v6 + 1)) r15 r16 e0 e1)))) else e1 v7 v8)
def slices_IndexFunc__Card_Q_OwedBy_1_ (g : C_slices_IndexFunc__Card_Q_OwedBy_1) (a1 : List G_Card) (a2 : Int) (a3 : G_Card) {R : Type} (k0 : Int → Int → G_Card → Option R) : Option R :=
  (slices_IndexFunc__Card_Q_OwedBy_1_L2 g g.N a1 (a1.length : Int) 0 a2 a3 (fun e17 e18 e19 => k0 e17 e18 e19) (fun e20 e21 => k0 (-1) e20 e21))
noncomputable def I_slices_IndexFunc__Card_Q_OwedBy_1 [Fuel] : C_slices_IndexFunc__Card_Q_OwedBy_1 := ⟨NN, @Q_OwedBy_1 _⟩
noncomputable def slices_IndexFunc__Card_Q_OwedBy_1 [Fuel] : T_slices_IndexFunc__Card_Q_OwedBy_1 := @slices_IndexFunc__Card_Q_OwedBy_1_ I_slices_IndexFunc__Card_Q_OwedBy_1
def SS_slices_IndexFunc__Card_Q_OwedBy_1 (g : T_slices_IndexFunc__Card_Q_OwedBy_1) : Spec A := fun args => match args with | [.d (.sl 66 a1), .fn 121 [.box [.d (.int .i64 a2)], .box [.d (.int .i64 a3), .d (.int .i64 a4), .d (.int .i64 a5), .d (.str a6), .d (.str a7)]]] => fun k => g a1 a2 ⟨a3, a4, a5, a6, a7⟩ (fun z0 z1 z2 => k (.d (.int .i64 z0)) [.undef, .fn 121 [.box [.d (.int .i64 z1)], .box [.d (.int .i64 z2.f_At), .d (.int .i64 z2.f_Kind), .d (.int .i64 z2.f_Mode), .d (.str z2.f_Call), .d (.str z2.f_Band)]]]) | _ => fun _ => none
def sh_slices_IndexFunc__Card_Q_OwedBy_1_L2 : SSt := mkSh 19 2 [(0, .sl 66), (1, .fn 121 [.ptr 0 0, .ptr 1 0]), (7, .int .i64), (8, .int .i64)] [(0, .box [.int .i64]), (1, .box [.int .i64, .int .i64, .int .i64, .str, .str])]
def LP_slices_IndexFunc__Card_Q_OwedBy_1_L2 (g : C_slices_IndexFunc__Card_Q_OwedBy_1) (n : Nat) : LPT A := fun ps => match ps with | [.d (.sl 66 p1), .d (.int .i64 p2), .d (.int .i64 p3), .d (.int .i64 p4), .d (.int .i64 p5), .d (.int .i64 p6), .d (.int .i64 p7), .d (.str p8), .d (.str p9)] => fun K => slices_IndexFunc__Card_Q_OwedBy_1_L2 g n p1 p2 p3 p4 ⟨p5, p6, p7, p8, p9⟩ (fun z0 z1 z2 => K .ret (mkSt 19 2 [(1, .fn 121 [.ptr 0 0, .ptr 1 0]), (4, .d (.int .i64 z0))] [(0, some (.box [.d (.int .i64 z1)])), (1, some (.box [.d (.int .i64 z2.f_At), .d (.int .i64 z2.f_Kind), .d (.int .i64 z2.f_Mode), .d (.str z2.f_Call), .d (.str z2.f_Band)]))])) (fun z0 z1 => K (.exit 0) (mkSt 19 2 [(1, .fn 121 [.ptr 0 0, .ptr 1 0])] [(0, some (.box [.d (.int .i64 z0)])), (1, some (.box [.d (.int .i64 z1.f_At), .d (.int .i64 z1.f_Kind), .d (.int .i64 z1.f_Mode), .d (.str z1.f_Call), .d (.str z1.f_Band)]))])) | _ => fun _ => none
noncomputable def E_slices_IndexFunc__Card_Q_OwedBy_1 (g : C_slices_IndexFunc__Card_Q_OwedBy_1) : Env A := mkE [(121, SS_Q_OwedBy_1 g.Q_OwedBy_1)] [] [(2, ⟨[0, 1, 7, 8], [], [0, 1], []⟩)] [(2, ⟨[1, 4], [], [0, 1], []⟩)] [(2, pieceOf sh_slices_IndexFunc__Card_Q_OwedBy_1_L2 (LP_slices_IndexFunc__Card_Q_OwedBy_1_L2 g g.N))] [] [] [] [] [1]
theorem ct_slices_IndexFunc__Card_Q_OwedBy_1 [Fuel] : NatTab (E_slices_IndexFunc__Card_Q_OwedBy_1 I_slices_IndexFunc__Card_Q_OwedBy_1).C := ct_of (P := Tryz.prog) (T := T) (.cons ok_Q_OwedBy_1 .nil) (by kernel_rfl)
noncomputable def cb_slices_IndexFunc__Card_Q_OwedBy_1_L2 : Code := sub [1, 0, 1, 0, 0] code_182
theorem s_slices_IndexFunc__Card_Q_OwedBy_1_L2 (g : C_slices_IndexFunc__Card_Q_OwedBy_1) (n : Nat) : StepOk (E_slices_IndexFunc__Card_Q_OwedBy_1 g) g.N cb_slices_IndexFunc__Card_Q_OwedBy_1_L2 sh_slices_IndexFunc__Card_Q_OwedBy_1_L2 (LP_slices_IndexFunc__Card_Q_OwedBy_1_L2 g) n := by intro ps; unfold LP_slices_IndexFunc__Card_Q_OwedBy_1_L2; split; exact .inr fun R K => (by kernel_rfl); exact .inl fun R K => rfl
theorem lf_slices_IndexFunc__Card_Q_OwedBy_1_L2 [Fuel] : LoopFine (E_slices_IndexFunc__Card_Q_OwedBy_1 I_slices_IndexFunc__Card_Q_OwedBy_1) NN cb_slices_IndexFunc__Card_Q_OwedBy_1_L2 := fine_loop sh_slices_IndexFunc__Card_Q_OwedBy_1_L2 (LP_slices_IndexFunc__Card_Q_OwedBy_1_L2 I_slices_IndexFunc__Card_Q_OwedBy_1) (by kernel_rfl) ct_slices_IndexFunc__Card_Q_OwedBy_1 (cuts0 (fun _ => rfl) (by kernel_rfl)) (fun ps R K => by unfold LP_slices_IndexFunc__Card_Q_OwedBy_1_L2; split <;> (try unfold slices_IndexFunc__Card_Q_OwedBy_1_L2) <;> rfl) (s_slices_IndexFunc__Card_Q_OwedBy_1_L2 I_slices_IndexFunc__Card_Q_OwedBy_1)
theorem sm_slices_IndexFunc__Card_Q_OwedBy_1 (g : C_slices_IndexFunc__Card_Q_OwedBy_1) : Same (SS_slices_IndexFunc__Card_Q_OwedBy_1 (@slices_IndexFunc__Card_Q_OwedBy_1_ g)) (abody (E_slices_IndexFunc__Card_Q_OwedBy_1 g) Tryz.f182 code_182 2 [0, 1] [.asis] g.N) := by intro args; unfold SS_slices_IndexFunc__Card_Q_OwedBy_1; split; exact .inr fun R k => (by kernel_rfl); exact .inl fun R k => rfl
theorem ok_slices_IndexFunc__Card_Q_OwedBy_1 [Fuel] : Ok 182 (SS_slices_IndexFunc__Card_Q_OwedBy_1 (@slices_IndexFunc__Card_Q_OwedBy_1 _)) := okF_of std (.cons ok_Q_OwedBy_1 .nil) ⟨rfl, rfl, by kernel_rfl, rfl, rfl⟩ (sm_slices_IndexFunc__Card_Q_OwedBy_1 I_slices_IndexFunc__Card_Q_OwedBy_1) (cutsL (fun _ => rfl) (.cons lf_slices_IndexFunc__Card_Q_OwedBy_1_L2 .nil) (by kernel_rfl)) Tryz.func182 (by kernel_rfl) (by kernel_rfl)
abbrev T_slices_ContainsFunc__Card_Q_OwedBy_1 : Type 1 := List G_Card → Int → G_Card → {R : Type} → (Bool → Int → G_Card → Option R) → Option R
structure C_slices_ContainsFunc__Card_Q_OwedBy_1 where
  N : Nat
  slices_IndexFunc__Card_Q_OwedBy_1 : T_slices_IndexFunc__Card_Q_OwedBy_1
def slices_ContainsFunc__Card_Q_OwedBy_1_ (g : C_slices_ContainsFunc__Card_Q_OwedBy_1) (a1 : List G_Card) (a2 : Int) (a3 : G_Card) {R : Type} (k0 : Bool → Int → G_Card → Option R) : Option R :=
  (g.slices_IndexFunc__Card_Q_OwedBy_1 a1 a2 a3 (fun r4 r5 r6 => k0 (decide (r4 ≥ 0)) r5 r6))
noncomputable def I_slices_ContainsFunc__Card_Q_OwedBy_1 [Fuel] : C_slices_ContainsFunc__Card_Q_OwedBy_1 := ⟨NN, @slices_IndexFunc__Card_Q_OwedBy_1 _⟩
noncomputable def slices_ContainsFunc__Card_Q_OwedBy_1 [Fuel] : T_slices_ContainsFunc__Card_Q_OwedBy_1 := @slices_ContainsFunc__Card_Q_OwedBy_1_ I_slices_ContainsFunc__Card_Q_OwedBy_1
def SS_slices_ContainsFunc__Card_Q_OwedBy_1 (g : T_slices_ContainsFunc__Card_Q_OwedBy_1) : Spec A := fun args => match args with | [.d (.sl 66 a1), .fn 121 [.box [.d (.int .i64 a2)], .box [.d (.int .i64 a3), .d (.int .i64 a4), .d (.int .i64 a5), .d (.str a6), .d (.str a7)]]] => fun k => g a1 a2 ⟨a3, a4, a5, a6, a7⟩ (fun z0 z1 z2 => k (.d (.bool z0)) [.undef, .fn 121 [.box [.d (.int .i64 z1)], .box [.d (.int .i64 z2.f_At), .d (.int .i64 z2.f_Kind), .d (.int .i64 z2.f_Mode), .d (.str z2.f_Call), .d (.str z2.f_Band)]]]) | _ => fun _ => none
noncomputable def E_slices_ContainsFunc__Card_Q_OwedBy_1 (g : C_slices_ContainsFunc__Card_Q_OwedBy_1) : Env A := mkE [(182, SS_slices_IndexFunc__Card_Q_OwedBy_1 g.slices_IndexFunc__Card_Q_OwedBy_1)] [] [] [] [] [] [] [] [(182, 0)] [1]
theorem sm_slices_ContainsFunc__Card_Q_OwedBy_1 (g : C_slices_ContainsFunc__Card_Q_OwedBy_1) : Same (SS_slices_ContainsFunc__Card_Q_OwedBy_1 (@slices_ContainsFunc__Card_Q_OwedBy_1_ g)) (abody (E_slices_ContainsFunc__Card_Q_OwedBy_1 g) Tryz.f118 code_118 2 [0, 1] [.asis] g.N) := by intro args; unfold SS_slices_ContainsFunc__Card_Q_OwedBy_1; split; exact .inr fun R k => (by kernel_rfl); exact .inl fun R k => rfl
theorem ok_slices_ContainsFunc__Card_Q_OwedBy_1 [Fuel] : Ok 118 (SS_slices_ContainsFunc__Card_Q_OwedBy_1 (@slices_ContainsFunc__Card_Q_OwedBy_1 _)) := okF_of std (.cons ok_slices_IndexFunc__Card_Q_OwedBy_1 .nil) ⟨rfl, rfl, by kernel_rfl, rfl, rfl⟩ (sm_slices_ContainsFunc__Card_Q_OwedBy_1 I_slices_ContainsFunc__Card_Q_OwedBy_1) (cuts0 (fun _ => rfl) (by kernel_rfl)) Tryz.func118 (by kernel_rfl) (by kernel_rfl)
abbrev T_Q_plainModes : Type 1 := {R : Type} → (List (List UInt8) → Option R) → Option R
def Q_plainModes_ (g : Nat)  {R : Type} (k0 : List (List UInt8) → Option R) : Option R :=
  k0 [[], [99, 111, 100, 101], [118, 111, 105, 99, 101], [100, 97, 116, 97]]
noncomputable def Q_plainModes [Fuel] : T_Q_plainModes := @Q_plainModes_ NN
def SS_Q_plainModes (g : T_Q_plainModes) : Spec A := fun args => match args with | [] => fun k => g (fun z0 => k (.arr 9 z0) []) | _ => fun _ => none
noncomputable def code_123 : Code := (Tryz.f123.body).getD .skip
noncomputable def E_Q_plainModes (g : Nat) : Env A := mkE [] [(1, [0])] [] [] [] [] [] [] [] []
theorem sm_Q_plainModes (g : Nat) : Same (SS_Q_plainModes (@Q_plainModes_ g)) (abody (E_Q_plainModes g) Tryz.f123 code_123 1 [] [.arr 9] g) := by intro args; unfold SS_Q_plainModes; split; exact .inr fun R k => (by kernel_rfl); exact .inl fun R k => rfl
theorem ok_Q_plainModes [Fuel] : Ok 123 (SS_Q_plainModes (@Q_plainModes _)) := okF_of std .nil ⟨rfl, rfl, by kernel_rfl, rfl, rfl⟩ (sm_Q_plainModes NN) (cuts0 (fun _ => rfl) (by kernel_rfl)) Tryz.func123 (by kernel_rfl) (by kernel_rfl)
abbrev T_cmp_isNaN__string : Type 1 := List UInt8 → {R : Type} → (Bool → Option R) → Option R
def cmp_isNaN__string_ (g : Nat) (a1 : List UInt8) {R : Type} (k0 : Bool → Option R) : Option R :=
  k0 (!(a1 == a1))
noncomputable def cmp_isNaN__string [Fuel] : T_cmp_isNaN__string := @cmp_isNaN__string_ NN
def SS_cmp_isNaN__string (g : T_cmp_isNaN__string) : Spec A := fun args => match args with | [.d (.str a1)] => fun k => g a1 (fun z0 => k (.d (.bool z0)) [.undef]) | _ => fun _ => none
noncomputable def code_253 : Code := (Tryz.f253.body).getD .skip
noncomputable def E_cmp_isNaN__string (g : Nat) : Env A := mkE [] [] [] [] [] [] [] [] [] []
theorem sm_cmp_isNaN__string (g : Nat) : Same (SS_cmp_isNaN__string (@cmp_isNaN__string_ g)) (abody (E_cmp_isNaN__string g) Tryz.f253 code_253 0 [] [.asis] g) := by intro args; unfold SS_cmp_isNaN__string; split; exact .inr fun R k => (by kernel_rfl); exact .inl fun R k => rfl
theorem ok_cmp_isNaN__string [Fuel] : Ok 253 (SS_cmp_isNaN__string (@cmp_isNaN__string _)) := okF_of std .nil ⟨rfl, rfl, by kernel_rfl, rfl, rfl⟩ (sm_cmp_isNaN__string NN) (cuts0 (fun _ => rfl) (by kernel_rfl)) Tryz.func253 (by kernel_rfl) (by kernel_rfl)
noncomputable def Ed_cmp_isNaN__string (g : Nat) : Env A := mkED [] [] [] [] [] [] [] [] [] []
theorem smd_cmp_isNaN__string (g : Nat) : Same (SS_cmp_isNaN__string (@cmp_isNaN__string_ g)) (abody (Ed_cmp_isNaN__string g) Tryz.f253 code_253 0 [] [.asis] g) := by intro args; unfold SS_cmp_isNaN__string; split; exact .inr fun R k => (by kernel_rfl); exact .inl fun R k => rfl
theorem okd_cmp_isNaN__string [Fuel] : OkD 253 (SS_cmp_isNaN__string (@cmp_isNaN__string _)) := okF_of stdD .nil ⟨rfl, rfl, by kernel_rfl, rfl, rfl⟩ (smd_cmp_isNaN__string NN) (cuts0 (fun _ => rfl) (by kernel_rfl)) Tryz.func253 (by kernel_rfl) (by kernel_rfl)
abbrev T_cmp_Compare__string : Type 1 := List UInt8 → List UInt8 → {R : Type} → (Int → Option R) → Option R
structure C_cmp_Compare__string where
  N : Nat
  cmp_isNaN__string : T_cmp_isNaN__string
def cmp_Compare__string_ (g : C_cmp_Compare__string) (a1 a2 : List UInt8) {R : Type} (k0 : Int → Option R) : Option R :=
  (g.cmp_isNaN__string a1 (fun r3 => (g.cmp_isNaN__string a2 (fun r4 => (bif r3 then (bif r4 then k0 0 else k0 (-1)) else (bif r4 then k0 1 else (bif (Op.bytesLess a1 a2) then k0 (-1) else (bif (!(Op.bytesLess a1 a2 || a1 == a2)) then k0 1 else k0 0))))))))
noncomputable def I_cmp_Compare__string [Fuel] : C_cmp_Compare__string := ⟨NN, @cmp_isNaN__string _⟩
noncomputable def cmp_Compare__string [Fuel] : T_cmp_Compare__string := @cmp_Compare__string_ I_cmp_Compare__string
def SS_cmp_Compare__string (g : T_cmp_Compare__string) : Spec A := fun args => match args with | [.d (.str a1), .d (.str a2)] => fun k => g a1 a2 (fun z0 => k (.d (.int .i64 z0)) [.undef, .undef]) | _ => fun _ => none
noncomputable def code_183 : Code := (Tryz.f183.body).getD .skip
noncomputable def E_cmp_Compare__string (g : C_cmp_Compare__string) : Env A := mkE [(253, SS_cmp_isNaN__string g.cmp_isNaN__string)] [] [] [] [] [] [] [] [] []
theorem sm_cmp_Compare__string (g : C_cmp_Compare__string) : Same (SS_cmp_Compare__string (@cmp_Compare__string_ g)) (abody (E_cmp_Compare__string g) Tryz.f183 code_183 0 [] [.asis] g.N) := by intro args; unfold SS_cmp_Compare__string; split; exact .inr fun R k => (by kernel_rfl); exact .inl fun R k => rfl
theorem ok_cmp_Compare__string [Fuel] : Ok 183 (SS_cmp_Compare__string (@cmp_Compare__string _)) := okF_of std (.cons ok_cmp_isNaN__string .nil) ⟨rfl, rfl, by kernel_rfl, rfl, rfl⟩ (sm_cmp_Compare__string I_cmp_Compare__string) (cuts0 (fun _ => rfl) (by kernel_rfl)) Tryz.func183 (by kernel_rfl) (by kernel_rfl)
noncomputable def Ed_cmp_Compare__string (g : C_cmp_Compare__string) : Env A := mkED [(253, SS_cmp_isNaN__string g.cmp_isNaN__string)] [] [] [] [] [] [] [] [] []
theorem smd_cmp_Compare__string (g : C_cmp_Compare__string) : Same (SS_cmp_Compare__string (@cmp_Compare__string_ g)) (abody (Ed_cmp_Compare__string g) Tryz.f183 code_183 0 [] [.asis] g.N) := by intro args; unfold SS_cmp_Compare__string; split; exact .inr fun R k => (by kernel_rfl); exact .inl fun R k => rfl
theorem okd_cmp_Compare__string [Fuel] : OkD 183 (SS_cmp_Compare__string (@cmp_Compare__string _)) := okF_of stdD (.cons okd_cmp_isNaN__string .nil) ⟨rfl, rfl, by kernel_rfl, rfl, rfl⟩ (smd_cmp_Compare__string I_cmp_Compare__string) (cuts0 (fun _ => rfl) (by kernel_rfl)) Tryz.func183 (by kernel_rfl) (by kernel_rfl)
abbrev T_slices_Compare__string : Type 1 := List (List UInt8) → List (List UInt8) → {R : Type} → (Int → Option R) → Option R
structure C_slices_Compare__string where
  N : Nat
  cmp_Compare__string : T_cmp_Compare__string
def slices_Compare__string_L2 (g : C_slices_Compare__string) : Nat → List (List UInt8) → List (List UInt8) → List (List UInt8) → Int → Int → {R : Type} → (List (List UInt8) → List (List UInt8) → Int → Option R) → (List (List UInt8) → List (List UInt8) → Option R) → Option R
  | 0, _, _, _, _, _, _, _, _ => none
  | n + 1, v3, v4, v5, v6, v7, _, e0, e1 => (bif (decide (v7 < v6)) then (get_ v5 v7 fun x11 => (bif (decide (v7 ≥ (v4.length : Int))) then e0 v3 v4 1 else (get_ v4 v7 fun x12 => (g.cmp_Compare__string x11 x12 (fun r13 => (bif (r13 != 0) then e0 v3 v4 r13 else slices_Compare__string_L2 g n v3 v4 v5 v6 (w64 (v7 + 1)) e0 e1)))))) else e1 v3 v4)
def slices_Compare__string_ (g : C_slices_Compare__string) (a1 a2 : List (List UInt8)) {R : Type} (k0 : Int → Option R) : Option R :=
  (slices_Compare__string_L2 g g.N a1 a2 a1 (a1.length : Int) 0 (fun e14 e15 e16 => k0 e16) (fun e17 e18 => (bif (decide ((e17.length : Int) < (e18.length : Int))) then k0 (-1) else k0 0)))
noncomputable def I_slices_Compare__string [Fuel] : C_slices_Compare__string := ⟨NN, @cmp_Compare__string _⟩
noncomputable def slices_Compare__string [Fuel] : T_slices_Compare__string := @slices_Compare__string_ I_slices_Compare__string
def SS_slices_Compare__string (g : T_slices_Compare__string) : Spec A := fun args => match args with | [.d (.sl 9 a1), .d (.sl 9 a2)] => fun k => g a1 a2 (fun z0 => k (.d (.int .i64 z0)) [.undef, .undef]) | _ => fun _ => none
def sh_slices_Compare__string_L2 : SSt := mkSh 36 0 [(0, .sl 9), (1, .sl 9), (9, .sl 9), (10, .int .i64), (11, .int .i64)] []
def LP_slices_Compare__string_L2 (g : C_slices_Compare__string) (n : Nat) : LPT A := fun ps => match ps with | [.d (.sl 9 p1), .d (.sl 9 p2), .d (.sl 9 p3), .d (.int .i64 p4), .d (.int .i64 p5)] => fun K => slices_Compare__string_L2 g n p1 p2 p3 p4 p5 (fun z0 z1 z2 => K .ret (mkSt 36 0 [(0, .d (.sl 9 z0)), (1, .d (.sl 9 z1)), (4, .d (.int .i64 z2))] [])) (fun z0 z1 => K (.exit 0) (mkSt 36 0 [(0, .d (.sl 9 z0)), (1, .d (.sl 9 z1))] [])) | _ => fun _ => none
noncomputable def code_125 : Code := (Tryz.f125.body).getD .skip
noncomputable def E_slices_Compare__string (g : C_slices_Compare__string) : Env A := mkE [(183, SS_cmp_Compare__string g.cmp_Compare__string)] [] [(2, ⟨[0, 1, 9, 10, 11], [], [], []⟩)] [(2, ⟨[0, 1, 4], [], [], []⟩)] [(2, pieceOf sh_slices_Compare__string_L2 (LP_slices_Compare__string_L2 g g.N))] [] [] [] [] []
theorem ct_slices_Compare__string [Fuel] : NatTab (E_slices_Compare__string I_slices_Compare__string).C := ct_of (P := Tryz.prog) (T := T) (.cons ok_cmp_Compare__string .nil) (by kernel_rfl)
noncomputable def cb_slices_Compare__string_L2 : Code := sub [1, 0, 1, 0, 0] code_125
theorem s_slices_Compare__string_L2 (g : C_slices_Compare__string) (n : Nat) : StepOk (E_slices_Compare__string g) g.N cb_slices_Compare__string_L2 sh_slices_Compare__string_L2 (LP_slices_Compare__string_L2 g) n := by intro ps; unfold LP_slices_Compare__string_L2; split; exact .inr fun R K => (by kernel_rfl); exact .inl fun R K => rfl
theorem lf_slices_Compare__string_L2 [Fuel] : LoopFine (E_slices_Compare__string I_slices_Compare__string) NN cb_slices_Compare__string_L2 := fine_loop sh_slices_Compare__string_L2 (LP_slices_Compare__string_L2 I_slices_Compare__string) (by kernel_rfl) ct_slices_Compare__string (cuts0 (fun _ => rfl) (by kernel_rfl)) (fun ps R K => by unfold LP_slices_Compare__string_L2; split <;> (try unfold slices_Compare__string_L2) <;> rfl) (s_slices_Compare__string_L2 I_slices_Compare__string)
theorem sm_slices_Compare__string (g : C_slices_Compare__string) : Same (SS_slices_Compare__string (@slices_Compare__string_ g)) (abody (E_slices_Compare__string g) Tryz.f125 code_125 0 [] [.asis] g.N) := by intro args; unfold SS_slices_Compare__string; split; exact .inr fun R k => (by kernel_rfl); exact .inl fun R k => rfl
theorem ok_slices_Compare__string [Fuel] : Ok 125 (SS_slices_Compare__string (@slices_Compare__string _)) := okF_of std (.cons ok_cmp_Compare__string .nil) ⟨rfl, rfl, by kernel_rfl, rfl, rfl⟩ (sm_slices_Compare__string I_slices_Compare__string) (cutsL (fun _ => rfl) (.cons lf_slices_Compare__string_L2 .nil) (by kernel_rfl)) Tryz.func125 (by kernel_rfl) (by kernel_rfl)
noncomputable def Ed_slices_Compare__string (g : C_slices_Compare__string) : Env A := mkED [(183, SS_cmp_Compare__string g.cmp_Compare__string)] [] [(2, ⟨[0, 1, 9, 10, 11], [], [], []⟩)] [(2, ⟨[0, 1, 4], [], [], []⟩)] [(2, pieceOf sh_slices_Compare__string_L2 (LP_slices_Compare__string_L2 g g.N))] [] [] [] [] []
theorem ctd_slices_Compare__string [Fuel] : NatTab (Ed_slices_Compare__string I_slices_Compare__string).C := ct_of (P := Tryz.prog) (T := TD) (.cons okd_cmp_Compare__string .nil) (by kernel_rfl)
theorem sd_slices_Compare__string_L2 (g : C_slices_Compare__string) (n : Nat) : StepOk (Ed_slices_Compare__string g) g.N cb_slices_Compare__string_L2 sh_slices_Compare__string_L2 (LP_slices_Compare__string_L2 g) n := by intro ps; unfold LP_slices_Compare__string_L2; split; exact .inr fun R K => (by kernel_rfl); exact .inl fun R K => rfl
theorem lfd_slices_Compare__string_L2 [Fuel] : LoopFine (Ed_slices_Compare__string I_slices_Compare__string) NN cb_slices_Compare__string_L2 := fine_loop sh_slices_Compare__string_L2 (LP_slices_Compare__string_L2 I_slices_Compare__string) (by kernel_rfl) ctd_slices_Compare__string (cuts0 (fun _ => rfl) (by kernel_rfl)) (fun ps R K => by unfold LP_slices_Compare__string_L2; split <;> (try unfold slices_Compare__string_L2) <;> rfl) (sd_slices_Compare__string_L2 I_slices_Compare__string)
theorem smd_slices_Compare__string (g : C_slices_Compare__string) : Same (SS_slices_Compare__string (@slices_Compare__string_ g)) (abody (Ed_slices_Compare__string g) Tryz.f125 code_125 0 [] [.asis] g.N) := by intro args; unfold SS_slices_Compare__string; split; exact .inr fun R k => (by kernel_rfl); exact .inl fun R k => rfl
theorem okd_slices_Compare__string [Fuel] : OkD 125 (SS_slices_Compare__string (@slices_Compare__string _)) := okF_of stdD (.cons okd_cmp_Compare__string .nil) ⟨rfl, rfl, by kernel_rfl, rfl, rfl⟩ (smd_slices_Compare__string I_slices_Compare__string) (cutsL (fun _ => rfl) (.cons lfd_slices_Compare__string_L2 .nil) (by kernel_rfl)) Tryz.func125 (by kernel_rfl) (by kernel_rfl)
abbrev T_Q_OwedBy_2 : Type 1 := G_Pair → G_Pair → {R : Type} → (Int → Option R) → Option R
structure C_Q_OwedBy_2 where
  N : Nat
  slices_Compare__string : T_slices_Compare__string
def Q_OwedBy_2_ (g : C_Q_OwedBy_2) (a1 a2 : G_Pair) {R : Type} (k0 : Int → Option R) : Option R :=
  (g.slices_Compare__string [a1.f_Name, a1.f_Value] [a2.f_Name, a2.f_Value] (fun r3 => k0 r3))
noncomputable def I_Q_OwedBy_2 [Fuel] : C_Q_OwedBy_2 := ⟨NN, @slices_Compare__string _⟩
noncomputable def Q_OwedBy_2 [Fuel] : T_Q_OwedBy_2 := @Q_OwedBy_2_ I_Q_OwedBy_2
def SS_Q_OwedBy_2 (g : T_Q_OwedBy_2) : Spec A := fun args => match args with | [.agg [.d (.str a1), .d (.str a2)], .agg [.d (.str a3), .d (.str a4)]] => fun k => g ⟨a1, a2⟩ ⟨a3, a4⟩ (fun z0 => k (.d (.int .i64 z0)) [.undef, .undef]) | _ => fun _ => none
noncomputable def code_124 : Code := (Tryz.f124.body).getD .skip
noncomputable def E_Q_OwedBy_2 (g : C_Q_OwedBy_2) : Env A := mkE [(125, SS_slices_Compare__string g.slices_Compare__string)] [(2, [0]), (3, [1]), (9, [2]), (14, [3])] [] [] [] [] [] [] [] []
theorem sm_Q_OwedBy_2 (g : C_Q_OwedBy_2) : Same (SS_Q_OwedBy_2 (@Q_OwedBy_2_ g)) (abody (E_Q_OwedBy_2 g) Tryz.f124 code_124 4 [] [.asis] g.N) := by intro args; unfold SS_Q_OwedBy_2; split; exact .inr fun R k => (by kernel_rfl); exact .inl fun R k => rfl
theorem ok_Q_OwedBy_2 [Fuel] : Ok 124 (SS_Q_OwedBy_2 (@Q_OwedBy_2 _)) := okF_of std (.cons ok_slices_Compare__string .nil) ⟨rfl, rfl, by kernel_rfl, rfl, rfl⟩ (sm_Q_OwedBy_2 I_Q_OwedBy_2) (cuts0 (fun _ => rfl) (by kernel_rfl)) Tryz.func124 (by kernel_rfl) (by kernel_rfl)
noncomputable def Ed_Q_OwedBy_2 (g : C_Q_OwedBy_2) : Env A := mkED [(125, SS_slices_Compare__string g.slices_Compare__string)] [(2, [0]), (3, [1]), (9, [2]), (14, [3])] [] [] [] [] [] [] [] []
theorem smd_Q_OwedBy_2 (g : C_Q_OwedBy_2) : Same (SS_Q_OwedBy_2 (@Q_OwedBy_2_ g)) (abody (Ed_Q_OwedBy_2 g) Tryz.f124 code_124 4 [] [.asis] g.N) := by intro args; unfold SS_Q_OwedBy_2; split; exact .inr fun R k => (by kernel_rfl); exact .inl fun R k => rfl
theorem okd_Q_OwedBy_2 [Fuel] : OkD 124 (SS_Q_OwedBy_2 (@Q_OwedBy_2 _)) := okF_of stdD (.cons okd_slices_Compare__string .nil) ⟨rfl, rfl, by kernel_rfl, rfl, rfl⟩ (smd_Q_OwedBy_2 I_Q_OwedBy_2) (cuts0 (fun _ => rfl) (by kernel_rfl)) Tryz.func124 (by kernel_rfl) (by kernel_rfl)
abbrev T_slices_SortFunc__Pair_Q_OwedBy_2 : Type 1 := List G_Pair → {R : Type} → (List G_Pair → Option R) → Option R
noncomputable def slices_SortFunc__Pair_Q_OwedBy_2 [Fuel] : T_slices_SortFunc__Pair_Q_OwedBy_2 := @X_sortf G_Pair (@Q_OwedBy_2 _)
def SS_slices_SortFunc__Pair_Q_OwedBy_2 (g : T_slices_SortFunc__Pair_Q_OwedBy_2) : Spec A := fun args => match args with | [.arr 69 a1, .fn 124 []] => fun k => g a1 (fun z => k (.tup []) [.arr 69 z, .fn 124 []]) | _ => fun _ => none
theorem h1_slices_SortFunc__Pair_Q_OwedBy_2 [Fuel] (xs : List (A 69)) (R : Type) (k : IV A → List (IV A) → Option R) : SS_slices_SortFunc__Pair_Q_OwedBy_2 (@slices_SortFunc__Pair_Q_OwedBy_2 _) [.arr 69 xs, .fn 124 []] k = X_sortf (α := A 69) (@Q_OwedBy_2 _) xs (fun z => k (.tup []) [.arr 69 z, .fn 124 []]) := by kernel_rfl
theorem h2_slices_SortFunc__Pair_Q_OwedBy_2 [Fuel] (args : List (IV A)) (R : Type) (k : IV A → List (IV A) → Option R) (h : ∀ xs : List (A 69), args ≠ [.arr 69 xs, .fn 124 []]) : SS_slices_SortFunc__Pair_Q_OwedBy_2 (@slices_SortFunc__Pair_Q_OwedBy_2 _) args k = none := by unfold SS_slices_SortFunc__Pair_Q_OwedBy_2; split; exact absurd rfl (h _); rfl
theorem hc_slices_SortFunc__Pair_Q_OwedBy_2 [Fuel] (x y : A 69) (R : Type) (k : Int → Option R) : callOf T (SS_Q_OwedBy_2 (@Q_OwedBy_2 _)) 69 x y k = @Q_OwedBy_2 _ x y R k := by kernel_rfl
theorem hs_slices_SortFunc__Pair_Q_OwedBy_2 (x : G_Pair) : (enc_e69 x).all scal = true := rfl
theorem ok_slices_SortFunc__Pair_Q_OwedBy_2 [Fuel] : Ok 111 (SS_slices_SortFunc__Pair_Q_OwedBy_2 (@slices_SortFunc__Pair_Q_OwedBy_2 _)) := ⟨sortf_sound (tyOk Tryz.prog) (e := 69) Tryz.sortf111 Tryz.isAgg69 Tryz.sizeOf69 (fun x d hd => List.all_eq_true.1 (hs_slices_SortFunc__Pair_Q_OwedBy_2 x) d hd) hc_slices_SortFunc__Pair_Q_OwedBy_2 okd_Q_OwedBy_2.fs okd_Q_OwedBy_2.en h1_slices_SortFunc__Pair_Q_OwedBy_2 h2_slices_SortFunc__Pair_Q_OwedBy_2, sortf_na (e := 69) h1_slices_SortFunc__Pair_Q_OwedBy_2 h2_slices_SortFunc__Pair_Q_OwedBy_2, enters_of (fn := Tryz.f111) Tryz.func111 (by kernel_rfl) (by kernel_rfl)⟩
abbrev T_Q_OwedBy : Type 1 := List G_Card → Int → {R : Type} → (List G_Pair → Option R) → Option R
structure C_Q_OwedBy where
  N : Nat
  Q_ConfirmedBy : T_Q_ConfirmedBy
  slices_SortFunc__Pair_Q_OwedBy_2 : T_slices_SortFunc__Pair_Q_OwedBy_2
  slices_ContainsFunc__Card_Q_OwedBy_1 : T_slices_ContainsFunc__Card_Q_OwedBy_1
  Q_with : T_Q_with
  Q_BaseOf : T_Q_BaseOf
  Q_plainModes : T_Q_plainModes
def Q_OwedBy_L7 (g : C_Q_OwedBy) : Nat → List G_Card → Bool → Int → Int → List G_Card → Int → Int → Int → List G_Card → List G_Pair → G_Card → {R : Type} → (List G_Card → Bool → Int → Int → Int → List G_Card → List G_Pair → G_Card → Option R) → Option R
  | 0, _, _, _, _, _, _, _, _, _, _, _, _, _ => none
  | n + 1, v44, v45, v46, v47, v48, v49, v50, v51, v52, v53, v54, _, e0 => (bif (decide (v50 < v49)) then (get_ v48 v50 fun x60 => (bif (x60.f_Kind != 1) then Q_OwedBy_L7 g n v44 v45 v46 v47 v48 v49 (w64 (v50 + 1)) v51 v52 v53 v54 e0 else (bif (decide (x60.f_At > v51)) then Q_OwedBy_L7 g n v44 v45 v46 v47 v48 v49 (w64 (v50 + 1)) v51 v52 v53 v54 e0 else (g.Q_with x60 v54 (fun r61 => (bif (!r61) then Q_OwedBy_L7 g n v44 v45 v46 v47 v48 v49 (w64 (v50 + 1)) v51 v52 v53 v54 e0 else (bif v45 then Q_OwedBy_L7 g n v44 true v46 v47 v48 v49 (w64 (v50 + 1)) v51 v52 v53 v54 e0 else (bif (decide (0 ≤ (w64 (v50 + 1))) && decide ((w64 (v50 + 1)) ≤ (v44.length : Int))) then (g.slices_ContainsFunc__Card_Q_OwedBy_1 (v44.drop ((w64 (v50 + 1)) : Int).toNat) v51 v54 (fun r62 r63 r64 => Q_OwedBy_L7 g n v44 (!r62) v46 v47 v48 v49 (w64 (v50 + 1)) r63 v52 v53 r64 e0)) else none)))))))) else e0 v44 v45 v46 v47 v51 v52 v53 v54)
def Q_OwedBy_L3 (g : C_Q_OwedBy) : Nat → List G_Card → Int → Int → Int → List G_Card → List G_Pair → {R : Type} → (List G_Pair → Option R) → Option R
  | 0, _, _, _, _, _, _, _, _ => none
  | n + 1, v4, v5, v6, v7, v8, v9, _, e0 => (bif (decide (v6 < v5)) then (inr v8 v6 (at_ v8 v6 fun x43 => (Q_OwedBy_L7 g g.N v4 false v5 v6 v4 (v4.length : Int) 0 v7 v8 v9 x43 (fun e65 e66 e67 e68 e69 e70 e71 e72 => (bif (!e66) then (bif (strOk e72.f_Band [32]) then (g.Q_BaseOf e72.f_Call (fun r73 => (g.Q_plainModes (fun r74 => (inr r74 e72.f_Mode (at_ r74 e72.f_Mode fun x75 => (bif (strOk (e72.f_Band ++ [32]) x75) then (bif (decide ((e71.length + [(⟨r73, ((e72.f_Band ++ [32]) ++ x75)⟩ : G_Pair)].length) * 32 ≤ roomBytes')) then Q_OwedBy_L3 g n e65 e67 (w64 (e68 + 1)) e69 e70 (e71 ++ [(⟨r73, ((e72.f_Band ++ [32]) ++ x75)⟩ : G_Pair)]) e0 else none) else none))))))) else none) else Q_OwedBy_L3 g n e65 e67 (w64 (e68 + 1)) e69 e70 e71 e0))))) else e0 v9)
def Q_OwedBy_ (g : C_Q_OwedBy) (a1 : List G_Card) (a2 : Int) {R : Type} (k0 : List G_Pair → Option R) : Option R :=
  (g.Q_ConfirmedBy a1 a2 (fun r3 => (Q_OwedBy_L3 g g.N a1 (r3.length : Int) 0 a2 r3 [] (fun e76 => (g.slices_SortFunc__Pair_Q_OwedBy_2 e76 (fun r77 => k0 r77))))))
noncomputable def I_Q_OwedBy [Fuel] : C_Q_OwedBy := ⟨NN, @Q_ConfirmedBy _, @slices_SortFunc__Pair_Q_OwedBy_2 _, @slices_ContainsFunc__Card_Q_OwedBy_1 _, @Q_with _, @Q_BaseOf _, @Q_plainModes _⟩
noncomputable def Q_OwedBy [Fuel] : T_Q_OwedBy := @Q_OwedBy_ I_Q_OwedBy
def SS_Q_OwedBy (g : T_Q_OwedBy) : Spec A := fun args => match args with | [.d (.sl 66 a1), .d (.int .i64 a2)] => fun k => g a1 a2 (fun z0 => k (.arr 69 z0) [.undef, .undef]) | _ => fun _ => none
def sh_Q_OwedBy_L7 : SSt := mkSh 74 8 [(0, .sl 66), (3, .ptr 0 0), (5, .own 69 2), (7, .ptr 3 0), (8, .bool), (13, .own 66 1), (14, .int .i64), (15, .int .i64), (19, .sl 66), (20, .int .i64), (21, .int .i64)] [(0, .box [.int .i64]), (1, .row 66), (2, .row 69), (3, .box [.int .i64, .int .i64, .int .i64, .str, .str])]
def LP_Q_OwedBy_L7 (g : C_Q_OwedBy) (n : Nat) : LPT A := fun ps => match ps with | [.d (.sl 66 p1), .d (.bool p2), .d (.int .i64 p3), .d (.int .i64 p4), .d (.sl 66 p5), .d (.int .i64 p6), .d (.int .i64 p7), .d (.int .i64 p8), .d (.sl 66 p9), .d (.sl 69 p10), .d (.int .i64 p11), .d (.int .i64 p12), .d (.int .i64 p13), .d (.str p14), .d (.str p15)] => fun K => Q_OwedBy_L7 g n p1 p2 p3 p4 p5 p6 p7 p8 p9 p10 ⟨p11, p12, p13, p14, p15⟩ (fun z0 z1 z2 z3 z4 z5 z6 z7 => K (.exit 2) (mkSt 74 8 [(0, .d (.sl 66 z0)), (3, .ptr 0 0), (5, .own 69 2), (7, .ptr 3 0), (8, .d (.bool z1)), (13, .own 66 1), (14, .d (.int .i64 z2)), (15, .d (.int .i64 z3))] [(0, some (.box [.d (.int .i64 z4)])), (1, some (.row 66 z5)), (2, some (.row 69 z6)), (3, some (.box [.d (.int .i64 z7.f_At), .d (.int .i64 z7.f_Kind), .d (.int .i64 z7.f_Mode), .d (.str z7.f_Call), .d (.str z7.f_Band)]))])) | _ => fun _ => none
def sh_Q_OwedBy_L3 : SSt := mkSh 74 8 [(0, .sl 66), (3, .ptr 0 0), (5, .own 69 2), (13, .own 66 1), (14, .int .i64), (15, .int .i64)] [(0, .box [.int .i64]), (1, .row 66), (2, .row 69)]
def LP_Q_OwedBy_L3 (g : C_Q_OwedBy) (n : Nat) : LPT A := fun ps => match ps with | [.d (.sl 66 p1), .d (.int .i64 p2), .d (.int .i64 p3), .d (.int .i64 p4), .d (.sl 66 p5), .d (.sl 69 p6)] => fun K => Q_OwedBy_L3 g n p1 p2 p3 p4 p5 p6 (fun z0 => K (.exit 0) (mkSt 74 8 [(5, .own 69 2)] [(2, some (.row 69 z0))])) | _ => fun _ => none
noncomputable def code_34 : Code := (Tryz.f34.body).getD .skip
noncomputable def E_Q_OwedBy (g : C_Q_OwedBy) : Env A := mkE [(33, SS_Q_ConfirmedBy g.Q_ConfirmedBy), (111, SS_slices_SortFunc__Pair_Q_OwedBy_2 g.slices_SortFunc__Pair_Q_OwedBy_2), (118, SS_slices_ContainsFunc__Card_Q_OwedBy_1 g.slices_ContainsFunc__Card_Q_OwedBy_1), (120, SS_Q_with g.Q_with), (122, SS_Q_BaseOf g.Q_BaseOf), (123, SS_Q_plainModes g.Q_plainModes)] [(3, [0]), (7, [3]), (10, [4]), (13, [1]), (61, [5]), (68, [6]), (69, [7])] [(7, ⟨[0, 3, 5, 7, 8, 13, 14, 15, 19, 20, 21], [], [0, 1, 2, 3], []⟩), (3, ⟨[0, 3, 5, 13, 14, 15], [(5, 69, 2)], [0, 1], []⟩)] [(7, ⟨[0, 3, 5, 7, 8, 13, 14, 15], [], [0, 1, 2, 3], []⟩), (3, ⟨[5], [], [2], []⟩)] [(7, pieceOf sh_Q_OwedBy_L7 (LP_Q_OwedBy_L7 g g.N)), (3, pieceOf sh_Q_OwedBy_L3 (LP_Q_OwedBy_L3 g g.N))] [] [] [] [(111, 0)] []
theorem ct_Q_OwedBy [Fuel] : NatTab (E_Q_OwedBy I_Q_OwedBy).C := ct_of (P := Tryz.prog) (T := T) (.cons ok_Q_ConfirmedBy (.cons ok_slices_SortFunc__Pair_Q_OwedBy_2 (.cons ok_slices_ContainsFunc__Card_Q_OwedBy_1 (.cons ok_Q_with (.cons ok_Q_BaseOf (.cons ok_Q_plainModes .nil)))))) (by kernel_rfl)
noncomputable def cb_Q_OwedBy_L7 : Code := sub [1, 1, 0, 1, 0, 0, 1, 1, 0, 0, 1, 1, 0, 1, 0, 0] code_34
theorem s_Q_OwedBy_L7 (g : C_Q_OwedBy) (n : Nat) : StepOk (E_Q_OwedBy g) g.N cb_Q_OwedBy_L7 sh_Q_OwedBy_L7 (LP_Q_OwedBy_L7 g) n := by intro ps; unfold LP_Q_OwedBy_L7; split; exact .inr fun R K => (by kernel_rfl); exact .inl fun R K => rfl
theorem lf_Q_OwedBy_L7 [Fuel] : LoopFine (E_Q_OwedBy I_Q_OwedBy) NN cb_Q_OwedBy_L7 := fine_loop sh_Q_OwedBy_L7 (LP_Q_OwedBy_L7 I_Q_OwedBy) (by kernel_rfl) ct_Q_OwedBy (cuts0 (fun _ => rfl) (by kernel_rfl)) (fun ps R K => by unfold LP_Q_OwedBy_L7; split <;> (try unfold Q_OwedBy_L7) <;> rfl) (s_Q_OwedBy_L7 I_Q_OwedBy)
noncomputable def cb_Q_OwedBy_L3 : Code := sub [1, 1, 0, 1, 0, 0] code_34
theorem s_Q_OwedBy_L3 (g : C_Q_OwedBy) (n : Nat) : StepOk (E_Q_OwedBy g) g.N cb_Q_OwedBy_L3 sh_Q_OwedBy_L3 (LP_Q_OwedBy_L3 g) n := by intro ps; unfold LP_Q_OwedBy_L3; split; exact .inr fun R K => (by kernel_rfl); exact .inl fun R K => rfl
theorem lf_Q_OwedBy_L3 [Fuel] : LoopFine (E_Q_OwedBy I_Q_OwedBy) NN cb_Q_OwedBy_L3 := fine_loop sh_Q_OwedBy_L3 (LP_Q_OwedBy_L3 I_Q_OwedBy) (by kernel_rfl) ct_Q_OwedBy (cutsL (fun _ => rfl) (.cons lf_Q_OwedBy_L7 .nil) (by kernel_rfl)) (fun ps R K => by unfold LP_Q_OwedBy_L3; split <;> (try unfold Q_OwedBy_L3) <;> rfl) (s_Q_OwedBy_L3 I_Q_OwedBy)
theorem sm_Q_OwedBy (g : C_Q_OwedBy) : Same (SS_Q_OwedBy (@Q_OwedBy_ g)) (abody (E_Q_OwedBy g) Tryz.f34 code_34 8 [] [.arr 69] g.N) := by intro args; unfold SS_Q_OwedBy; split; exact .inr fun R k => (by kernel_rfl); exact .inl fun R k => rfl
theorem ok_Q_OwedBy [Fuel] : Ok 34 (SS_Q_OwedBy (@Q_OwedBy _)) := okF_of std (.cons ok_Q_ConfirmedBy (.cons ok_slices_SortFunc__Pair_Q_OwedBy_2 (.cons ok_slices_ContainsFunc__Card_Q_OwedBy_1 (.cons ok_Q_with (.cons ok_Q_BaseOf (.cons ok_Q_plainModes .nil)))))) ⟨rfl, rfl, by kernel_rfl, rfl, rfl⟩ (sm_Q_OwedBy I_Q_OwedBy) (cutsL (fun _ => rfl) (.cons lf_Q_OwedBy_L7 (.cons lf_Q_OwedBy_L3 .nil)) (by kernel_rfl)) Tryz.func34 (by kernel_rfl) (by kernel_rfl)
abbrev T_slices_Equal__Card : Type 1 := List G_Card → List G_Card → {R : Type} → (Bool → Option R) → Option R
def slices_Equal__Card_L4 (g : Nat) : Nat → List G_Card → List G_Card → Int → Int → {R : Type} → (Bool → Option R) → Option R → Option R
  | 0, _, _, _, _, _, _, _ => none
  | n + 1, v3, v4, v5, v6, _, e0, e1 => (bif (decide (v6 < v5)) then (get_ v3 v6 fun x9 => (get_ v4 v6 fun x10 => (bif (!(eq_G_Card x9 x10)) then e0 false else slices_Equal__Card_L4 g n v3 v4 v5 (w64 (v6 + 1)) e0 e1))) else e1)
def slices_Equal__Card_ (g : Nat) (a1 a2 : List G_Card) {R : Type} (k0 : Bool → Option R) : Option R :=
  (bif ((a1.length : Int) != (a2.length : Int)) then k0 false else (slices_Equal__Card_L4 g g a1 a2 (a1.length : Int) 0 (fun e11 => k0 e11) (k0 true)))
noncomputable def slices_Equal__Card [Fuel] : T_slices_Equal__Card := @slices_Equal__Card_ NN
def p_slices_Equal__Card (args : List (IV A)) : Bool := match args with | [.d (.sl 66 _), .d (.sl 66 _)] => true | _ => false
def SS_slices_Equal__Card (g : T_slices_Equal__Card) : Spec A := fun args => match args with | [.d (.sl 66 a1), .d (.sl 66 a2)] => fun k => g a1 a2 (fun z0 => k (.d (.bool z0)) [.undef, .undef]) | _ => fun _ => none
def sh_slices_Equal__Card_L4 : SSt := mkSh 26 0 [(0, .sl 66), (1, .sl 66), (12, .int .i64), (13, .int .i64)] []
def LP_slices_Equal__Card_L4 (g : Nat) (n : Nat) : LPT A := fun ps => match ps with | [.d (.sl 66 p1), .d (.sl 66 p2), .d (.int .i64 p3), .d (.int .i64 p4)] => fun K => slices_Equal__Card_L4 g n p1 p2 p3 p4 (fun z0 => K .ret (mkSt 26 0 [(4, .d (.bool z0))] [])) (K (.exit 0) (mkSt 26 0 [] [])) | _ => fun _ => none
noncomputable def code_36 : Code := (Tryz.f36.body).getD .skip
noncomputable def E_slices_Equal__Card (g : Nat) : Env A := mkE [] [] [(4, ⟨[0, 1, 12, 13], [], [], []⟩)] [(4, ⟨[4], [], [], []⟩)] [(4, pieceOf sh_slices_Equal__Card_L4 (LP_slices_Equal__Card_L4 g g))] [] [] [] [] []
theorem ct_slices_Equal__Card [Fuel] : NatTab (E_slices_Equal__Card NN).C := ct_of (P := Tryz.prog) (T := T) .nil (by kernel_rfl)
noncomputable def cb_slices_Equal__Card_L4 : Code := sub [1, 1, 0, 1, 0, 0] code_36
theorem s_slices_Equal__Card_L4 (g : Nat) (n : Nat) : StepOk (E_slices_Equal__Card g) g cb_slices_Equal__Card_L4 sh_slices_Equal__Card_L4 (LP_slices_Equal__Card_L4 g) n := by intro ps; unfold LP_slices_Equal__Card_L4; split; exact .inr fun R K => (by kernel_rfl); exact .inl fun R K => rfl
theorem lf_slices_Equal__Card_L4 [Fuel] : LoopFine (E_slices_Equal__Card NN) NN cb_slices_Equal__Card_L4 := fine_loop sh_slices_Equal__Card_L4 (LP_slices_Equal__Card_L4 NN) (by kernel_rfl) ct_slices_Equal__Card (cuts0 (fun _ => rfl) (by kernel_rfl)) (fun ps R K => by unfold LP_slices_Equal__Card_L4; split <;> (try unfold slices_Equal__Card_L4) <;> rfl) (s_slices_Equal__Card_L4 NN)
theorem sm_slices_Equal__Card (g : Nat) : Same (SS_slices_Equal__Card (@slices_Equal__Card_ g)) (abody (E_slices_Equal__Card g) Tryz.f36 code_36 0 [] [.asis] g) := by intro args; unfold SS_slices_Equal__Card; split; exact .inr fun R k => (by kernel_rfl); exact .inl fun R k => rfl
theorem ok_slices_Equal__Card [Fuel] : Ok 36 (SS_slices_Equal__Card (@slices_Equal__Card _)) := okF_of std .nil ⟨rfl, rfl, by kernel_rfl, rfl, rfl⟩ (sm_slices_Equal__Card NN) (cutsL (fun _ => rfl) (.cons lf_slices_Equal__Card_L4 .nil) (by kernel_rfl)) Tryz.func36 (by kernel_rfl) (by kernel_rfl)
abbrev T_slices_Equal__Pair : Type 1 := List G_Pair → List G_Pair → {R : Type} → (Bool → Option R) → Option R
def slices_Equal__Pair_L4 (g : Nat) : Nat → List G_Pair → List G_Pair → Int → Int → {R : Type} → (Bool → Option R) → Option R → Option R
  | 0, _, _, _, _, _, _, _ => none
  | n + 1, v3, v4, v5, v6, _, e0, e1 => (bif (decide (v6 < v5)) then (get_ v3 v6 fun x9 => (get_ v4 v6 fun x10 => (bif (!(eq_G_Pair x9 x10)) then e0 false else slices_Equal__Pair_L4 g n v3 v4 v5 (w64 (v6 + 1)) e0 e1))) else e1)
def slices_Equal__Pair_ (g : Nat) (a1 a2 : List G_Pair) {R : Type} (k0 : Bool → Option R) : Option R :=
  (bif ((a1.length : Int) != (a2.length : Int)) then k0 false else (slices_Equal__Pair_L4 g g a1 a2 (a1.length : Int) 0 (fun e11 => k0 e11) (k0 true)))
noncomputable def slices_Equal__Pair [Fuel] : T_slices_Equal__Pair := @slices_Equal__Pair_ NN
def p_slices_Equal__Pair (args : List (IV A)) : Bool := match args with | [.d (.sl 69 _), .d (.sl 69 _)] => true | _ => false
def SS_slices_Equal__Pair (g : T_slices_Equal__Pair) : Spec A := fun args => match args with | [.d (.sl 69 a1), .d (.sl 69 a2)] => fun k => g a1 a2 (fun z0 => k (.d (.bool z0)) [.undef, .undef]) | _ => fun _ => none
def sh_slices_Equal__Pair_L4 : SSt := mkSh 26 0 [(0, .sl 69), (1, .sl 69), (12, .int .i64), (13, .int .i64)] []
def LP_slices_Equal__Pair_L4 (g : Nat) (n : Nat) : LPT A := fun ps => match ps with | [.d (.sl 69 p1), .d (.sl 69 p2), .d (.int .i64 p3), .d (.int .i64 p4)] => fun K => slices_Equal__Pair_L4 g n p1 p2 p3 p4 (fun z0 => K .ret (mkSt 26 0 [(4, .d (.bool z0))] [])) (K (.exit 0) (mkSt 26 0 [] [])) | _ => fun _ => none
noncomputable def code_37 : Code := (Tryz.f37.body).getD .skip
noncomputable def E_slices_Equal__Pair (g : Nat) : Env A := mkE [] [] [(4, ⟨[0, 1, 12, 13], [], [], []⟩)] [(4, ⟨[4], [], [], []⟩)] [(4, pieceOf sh_slices_Equal__Pair_L4 (LP_slices_Equal__Pair_L4 g g))] [] [] [] [] []
theorem ct_slices_Equal__Pair [Fuel] : NatTab (E_slices_Equal__Pair NN).C := ct_of (P := Tryz.prog) (T := T) .nil (by kernel_rfl)
noncomputable def cb_slices_Equal__Pair_L4 : Code := sub [1, 1, 0, 1, 0, 0] code_37
theorem s_slices_Equal__Pair_L4 (g : Nat) (n : Nat) : StepOk (E_slices_Equal__Pair g) g cb_slices_Equal__Pair_L4 sh_slices_Equal__Pair_L4 (LP_slices_Equal__Pair_L4 g) n := by intro ps; unfold LP_slices_Equal__Pair_L4; split; exact .inr fun R K => (by kernel_rfl); exact .inl fun R K => rfl
theorem lf_slices_Equal__Pair_L4 [Fuel] : LoopFine (E_slices_Equal__Pair NN) NN cb_slices_Equal__Pair_L4 := fine_loop sh_slices_Equal__Pair_L4 (LP_slices_Equal__Pair_L4 NN) (by kernel_rfl) ct_slices_Equal__Pair (cuts0 (fun _ => rfl) (by kernel_rfl)) (fun ps R K => by unfold LP_slices_Equal__Pair_L4; split <;> (try unfold slices_Equal__Pair_L4) <;> rfl) (s_slices_Equal__Pair_L4 NN)
theorem sm_slices_Equal__Pair (g : Nat) : Same (SS_slices_Equal__Pair (@slices_Equal__Pair_ g)) (abody (E_slices_Equal__Pair g) Tryz.f37 code_37 0 [] [.asis] g) := by intro args; unfold SS_slices_Equal__Pair; split; exact .inr fun R k => (by kernel_rfl); exact .inl fun R k => rfl
theorem ok_slices_Equal__Pair [Fuel] : Ok 37 (SS_slices_Equal__Pair (@slices_Equal__Pair _)) := okF_of std .nil ⟨rfl, rfl, by kernel_rfl, rfl, rfl⟩ (sm_slices_Equal__Pair NN) (cutsL (fun _ => rfl) (.cons lf_slices_Equal__Pair_L4 .nil) (by kernel_rfl)) Tryz.func37 (by kernel_rfl) (by kernel_rfl)
abbrev T_club_isSquare : Type 1 := List UInt8 → {R : Type} → (Bool → Option R) → Option R
def club_isSquare_L4 (g : Nat) : Nat → List UInt8 → Int → Int → {R : Type} → (Bool → Option R) → Option R → Option R
  | 0, _, _, _, _, _, _ => none
  | n + 1, v2, v3, v4, _, e0, e1 => (bif (decide (v4 < v3)) then (bif ((w64 (Int.tdiv v4 2)) == 1) then (get_ v2 v4 fun x11 => (bif (decide ((x11.toNat : Int) < 48)) then e0 false else (get_ v2 v4 fun x12 => (bif (decide ((x12.toNat : Int) > 57)) then e0 false else club_isSquare_L4 g n v2 v3 (w64 (v4 + 1)) e0 e1)))) else (bif ((w64 (Int.tdiv v4 2)) == 2) then (get_ v2 v4 fun x13 => (bif (decide ((x13.toNat : Int) < 97)) then e0 false else (get_ v2 v4 fun x14 => (bif (decide ((x14.toNat : Int) > 120)) then e0 false else club_isSquare_L4 g n v2 v3 (w64 (v4 + 1)) e0 e1)))) else (get_ v2 v4 fun x15 => (bif (decide ((x15.toNat : Int) < 97)) then e0 false else (get_ v2 v4 fun x16 => (bif (decide ((x16.toNat : Int) > 114)) then e0 false else club_isSquare_L4 g n v2 v3 (w64 (v4 + 1)) e0 e1)))))) else e1)
def club_isSquare_ (g : Nat) (a1 : List UInt8) {R : Type} (k0 : Bool → Option R) : Option R :=
  (bif ((a1.length : Int) != 2) then (bif ((a1.length : Int) != 4) then (bif ((a1.length : Int) != 6) then k0 false else (club_isSquare_L4 g g a1 (a1.length : Int) 0 (fun e17 => k0 e17) (k0 true))) else (club_isSquare_L4 g g a1 (a1.length : Int) 0 (fun e18 => k0 e18) (k0 true))) else (club_isSquare_L4 g g a1 (a1.length : Int) 0 (fun e19 => k0 e19) (k0 true)))
noncomputable def club_isSquare [Fuel] : T_club_isSquare := @club_isSquare_ NN
def SS_club_isSquare (g : T_club_isSquare) : Spec A := fun args => match args with | [.d (.str a1)] => fun k => g a1 (fun z0 => k (.d (.bool z0)) [.undef]) | _ => fun _ => none
def sh_club_isSquare_L4 : SSt := mkSh 43 0 [(0, .str), (20, .int .i64), (21, .int .i64)] []
def LP_club_isSquare_L4 (g : Nat) (n : Nat) : LPT A := fun ps => match ps with | [.d (.str p1), .d (.int .i64 p2), .d (.int .i64 p3)] => fun K => club_isSquare_L4 g n p1 p2 p3 (fun z0 => K .ret (mkSt 43 0 [(2, .d (.bool z0))] [])) (K (.exit 0) (mkSt 43 0 [] [])) | _ => fun _ => none
noncomputable def code_320 : Code := (Tryz.f320.body).getD .skip
noncomputable def E_club_isSquare (g : Nat) : Env A := mkE [] [] [(4, ⟨[0, 20, 21], [], [], []⟩)] [(4, ⟨[2], [], [], []⟩)] [(4, pieceOf sh_club_isSquare_L4 (LP_club_isSquare_L4 g g))] [] [] [] [] []
theorem ct_club_isSquare [Fuel] : NatTab (E_club_isSquare NN).C := ct_of (P := Tryz.prog) (T := T) .nil (by kernel_rfl)
noncomputable def cb_club_isSquare_L4 : Code := sub [1, 1, 0, 1, 0, 0] code_320
theorem s_club_isSquare_L4 (g : Nat) (n : Nat) : StepOk (E_club_isSquare g) g cb_club_isSquare_L4 sh_club_isSquare_L4 (LP_club_isSquare_L4 g) n := by intro ps; unfold LP_club_isSquare_L4; split; exact .inr fun R K => (by kernel_rfl); exact .inl fun R K => rfl
theorem lf_club_isSquare_L4 [Fuel] : LoopFine (E_club_isSquare NN) NN cb_club_isSquare_L4 := fine_loop sh_club_isSquare_L4 (LP_club_isSquare_L4 NN) (by kernel_rfl) ct_club_isSquare (cuts0 (fun _ => rfl) (by kernel_rfl)) (fun ps R K => by unfold LP_club_isSquare_L4; split <;> (try unfold club_isSquare_L4) <;> rfl) (s_club_isSquare_L4 NN)
theorem sm_club_isSquare (g : Nat) : Same (SS_club_isSquare (@club_isSquare_ g)) (abody (E_club_isSquare g) Tryz.f320 code_320 0 [] [.asis] g) := by intro args; unfold SS_club_isSquare; split; exact .inr fun R k => (by kernel_rfl); exact .inl fun R k => rfl
theorem ok_club_isSquare [Fuel] : Ok 320 (SS_club_isSquare (@club_isSquare _)) := okF_of std .nil ⟨rfl, rfl, by kernel_rfl, rfl, rfl⟩ (sm_club_isSquare NN) (cutsL (fun _ => rfl) (.cons lf_club_isSquare_L4 .nil) (by kernel_rfl)) Tryz.func320 (by kernel_rfl) (by kernel_rfl)
end Go.Am
