/- The functions of the program as Lean functions, each shown to be what the code computes, part 3. No condition: lemmas for the claim. -/
import Derived.Test.YtomkgnajoccdbaaGreatDoorF0
import Derived.Test.YtomkgnajoccdbaaGreatDoorFSh
import Derived.Test.YtomkgnajoccdbaaGreatDoorF1
import Derived.Test.YtomkgnajoccdbaaGreatDoorF2
set_option linter.unusedVariables false
set_option maxRecDepth 100000
namespace Go.Am
open Go Go.Proofs
abbrev T_Stream_Busies : Type 1 := G_Stream → {R : Type} → (List G_Busy → G_Stream → Option R) → Option R
structure C_Stream_Busies where
  N : Nat
  Stream_Some : T_Stream_Some
  Stream_Pick : T_Stream_Pick
  Stream_Flip : T_Stream_Flip
  Stream_Range : T_Stream_Range
  Stream_Odd : T_Stream_Odd
  slices_SortStableFunc__Busy_Stream_Busies_1 : T_slices_SortStableFunc__Busy_Stream_Busies_1
def Stream_Busies_L3 (g : C_Stream_Busies) : Nat → Int → Int → G_Stream → List G_Busy → {R : Type} → (G_Stream → List G_Busy → Option R) → Option R
  | 0, _, _, _, _, _, _ => none
  | n + 1, v4, v5, v6, v7, _, e0 => (bif (decide (v5 < v4)) then (g.Stream_Some v6 [[107, 49, 97, 98], [111, 104, 50, 97, 98, 99], [119, 49, 97, 119], [107, 49, 97, 98]] (fun r28 r29 => (g.Stream_Range r29 90 320 (fun r30 r31 => (g.Stream_Pick r31 [1, 2, 3, 20, 50] (fun r32 r33 => (g.Stream_Pick r33 [0, 10, 40, 60] (fun r34 r35 => (g.Stream_Pick r35 [10, 50, 100] (fun r36 r37 => (g.Stream_Flip r37 60 (fun r38 r39 => (bif r38 then (g.Stream_Some r39 [r28, []] (fun r40 r41 => (g.Stream_Odd r41 0 30000000000 (fun r42 r43 => (g.Stream_Odd r43 1 100000 (fun r44 r45 => (g.Stream_Odd r45 1 100 (fun r46 r47 => (bif (decide ((v7.length + [(⟨r40, r42, r44, (⟨r34, r46⟩ : G_Window)⟩ : G_Busy)].length) * 48 ≤ roomBytes')) then Stream_Busies_L3 g n v4 (w64 (v5 + 1)) r47 (v7 ++ [(⟨r40, r42, r44, (⟨r34, r46⟩ : G_Window)⟩ : G_Busy)]) e0 else none))))))))) else (bif (decide ((v7.length + [(⟨r28, r30, r32, (⟨r34, (w64 (r34 + r36))⟩ : G_Window)⟩ : G_Busy)].length) * 48 ≤ roomBytes')) then Stream_Busies_L3 g n v4 (w64 (v5 + 1)) r39 (v7 ++ [(⟨r28, r30, r32, (⟨r34, (w64 (r34 + r36))⟩ : G_Window)⟩ : G_Busy)]) e0 else none)))))))))))))) else e0 v6 v7)
def Stream_Busies_ (g : C_Stream_Busies) (a1 : G_Stream) {R : Type} (k0 : List G_Busy → G_Stream → Option R) : Option R :=
  (g.Stream_Range a1 0 6 (fun r2 r3 => (Stream_Busies_L3 g g.N r2 0 r3 [] (fun e48 e49 => (g.slices_SortStableFunc__Busy_Stream_Busies_1 e49 (fun r50 => k0 r50 e48))))))
noncomputable def I_Stream_Busies [Fuel] : C_Stream_Busies := ⟨NN, @Stream_Some _, @Stream_Pick _, @Stream_Flip _, @Stream_Range _, @Stream_Odd _, @slices_SortStableFunc__Busy_Stream_Busies_1 _⟩
noncomputable def Stream_Busies [Fuel] : T_Stream_Busies := @Stream_Busies_ I_Stream_Busies
def SS_Stream_Busies (g : T_Stream_Busies) : Spec A := fun args => match args with | [.box [.d (.sl 3 a1), .d (.int .i64 a2)]] => fun k => g ⟨a1, a2⟩ (fun z0 z1 => k (.arr 120 z0) [.box [.d (.sl 3 z1.f_L), .d (.int .i64 z1.f_at)]]) | _ => fun _ => none
def sh_Stream_Busies_L3 : SSt := mkSh 57 10 [(0, .ptr 0 0), (3, .own 120 1), (6, .int .i64), (7, .int .i64)] [(0, .box [.sl 3, .int .i64]), (1, .row 120)]
def LP_Stream_Busies_L3 (g : C_Stream_Busies) (n : Nat) : LPT A := fun ps => match ps with | [.d (.int .i64 p1), .d (.int .i64 p2), .d (.sl 3 p3), .d (.int .i64 p4), .d (.sl 120 p5)] => fun K => Stream_Busies_L3 g n p1 p2 ⟨p3, p4⟩ p5 (fun z0 z1 => K (.exit 0) (mkSt 57 10 [(0, .ptr 0 0), (3, .own 120 1)] [(0, some (.box [.d (.sl 3 z0.f_L), .d (.int .i64 z0.f_at)])), (1, some (.row 120 z1))])) | _ => fun _ => none
noncomputable def code_26 : Code := (Tryz.f26.body).getD .skip
noncomputable def E_Stream_Busies (g : C_Stream_Busies) : Env A := mkE [(8, SS_Stream_Some g.Stream_Some), (9, SS_Stream_Pick g.Stream_Pick), (48, SS_Stream_Flip g.Stream_Flip), (51, SS_Stream_Range g.Stream_Range), (52, SS_Stream_Odd g.Stream_Odd), (83, SS_slices_SortStableFunc__Busy_Stream_Busies_1 g.slices_SortStableFunc__Busy_Stream_Busies_1)] [(4, [5]), (10, [2]), (15, [3]), (18, [4]), (26, [6]), (36, [7]), (51, [8]), (52, [9])] [(3, ⟨[0, 3, 6, 7], [(3, 120, 1)], [0], []⟩)] [(3, ⟨[0, 3], [], [0, 1], []⟩)] [(3, pieceOf sh_Stream_Busies_L3 (LP_Stream_Busies_L3 g g.N))] [] [] [] [(83, 0)] [0]
theorem ct_Stream_Busies [Fuel] : NatTab (E_Stream_Busies I_Stream_Busies).C := ct_of (P := Tryz.prog) (T := T) (.cons ok_Stream_Some (.cons ok_Stream_Pick (.cons ok_Stream_Flip (.cons ok_Stream_Range (.cons ok_Stream_Odd (.cons ok_slices_SortStableFunc__Busy_Stream_Busies_1 .nil)))))) (by kernel_rfl)
noncomputable def cb_Stream_Busies_L3 : Code := sub [1, 1, 0, 1, 0, 0] code_26
theorem s_Stream_Busies_L3 (g : C_Stream_Busies) (n : Nat) : StepOk (E_Stream_Busies g) g.N cb_Stream_Busies_L3 sh_Stream_Busies_L3 (LP_Stream_Busies_L3 g) n := by intro ps; unfold LP_Stream_Busies_L3; split; exact .inr fun R K => (by kernel_rfl); exact .inl fun R K => rfl
theorem lf_Stream_Busies_L3 [Fuel] : LoopFine (E_Stream_Busies I_Stream_Busies) NN cb_Stream_Busies_L3 := fine_loop sh_Stream_Busies_L3 (LP_Stream_Busies_L3 I_Stream_Busies) (by kernel_rfl) ct_Stream_Busies (cuts0 (fun _ => rfl) (by kernel_rfl)) (fun ps R K => by unfold LP_Stream_Busies_L3; split <;> (try unfold Stream_Busies_L3) <;> rfl) (s_Stream_Busies_L3 I_Stream_Busies)
theorem sm_Stream_Busies (g : C_Stream_Busies) : Same (SS_Stream_Busies (@Stream_Busies_ g)) (abody (E_Stream_Busies g) Tryz.f26 code_26 10 [0] [.arr 120] g.N) := by intro args; unfold SS_Stream_Busies; split; exact .inr fun R k => (by kernel_rfl); exact .inl fun R k => rfl
theorem ok_Stream_Busies [Fuel] : Ok 26 (SS_Stream_Busies (@Stream_Busies _)) := okF_of std (.cons ok_Stream_Some (.cons ok_Stream_Pick (.cons ok_Stream_Flip (.cons ok_Stream_Range (.cons ok_Stream_Odd (.cons ok_slices_SortStableFunc__Busy_Stream_Busies_1 .nil)))))) ⟨rfl, rfl, by kernel_rfl, rfl, rfl, rfl⟩ (sm_Stream_Busies I_Stream_Busies) (cutsL (fun _ => rfl) (.cons lf_Stream_Busies_L3 .nil) (by kernel_rfl)) Tryz.func26 (by kernel_rfl) (by kernel_rfl)
abbrev T_Stream_Wide : Type 1 := G_Stream → {R : Type} → (Int → G_Stream → Option R) → Option R
structure C_Stream_Wide where
  N : Nat
  Stream_Pick : T_Stream_Pick
def Stream_Wide_ (g : C_Stream_Wide) (a1 : G_Stream) {R : Type} (k0 : Int → G_Stream → Option R) : Option R :=
  (g.Stream_Pick a1 [1, 2, 3, 4, 10, 10, 25, 101, 0, 100000, 100001] (fun r2 r3 => k0 r2 r3))
noncomputable def I_Stream_Wide [Fuel] : C_Stream_Wide := ⟨NN, @Stream_Pick _⟩
noncomputable def Stream_Wide [Fuel] : T_Stream_Wide := @Stream_Wide_ I_Stream_Wide
def SS_Stream_Wide (g : T_Stream_Wide) : Spec A := fun args => match args with | [.box [.d (.sl 3 a1), .d (.int .i64 a2)]] => fun k => g ⟨a1, a2⟩ (fun z0 z1 => k (.d (.int .i64 z0)) [.box [.d (.sl 3 z1.f_L), .d (.int .i64 z1.f_at)]]) | _ => fun _ => none
noncomputable def code_27 : Code := (Tryz.f27.body).getD .skip
noncomputable def E_Stream_Wide (g : C_Stream_Wide) : Env A := mkE [(9, SS_Stream_Pick g.Stream_Pick)] [(4, [1])] [] [] [] [] [] [] [] [0]
theorem sm_Stream_Wide (g : C_Stream_Wide) : Same (SS_Stream_Wide (@Stream_Wide_ g)) (abody (E_Stream_Wide g) Tryz.f27 code_27 2 [0] [.asis] g.N) := by intro args; unfold SS_Stream_Wide; split; exact .inr fun R k => (by kernel_rfl); exact .inl fun R k => rfl
theorem ok_Stream_Wide [Fuel] : Ok 27 (SS_Stream_Wide (@Stream_Wide _)) := okF_of std (.cons ok_Stream_Pick .nil) ⟨rfl, rfl, by kernel_rfl, rfl, rfl, rfl⟩ (sm_Stream_Wide I_Stream_Wide) (cuts0 (fun _ => rfl) (by kernel_rfl)) Tryz.func27 (by kernel_rfl) (by kernel_rfl)
abbrev T_Stream_Near : Type 1 := G_Stream → {R : Type} → (Int → G_Stream → Option R) → Option R
structure C_Stream_Near where
  N : Nat
  Stream_Flip : T_Stream_Flip
  Stream_Range : T_Stream_Range
  Stream_Odd : T_Stream_Odd
def Stream_Near_ (g : C_Stream_Near) (a1 : G_Stream) {R : Type} (k0 : Int → G_Stream → Option R) : Option R :=
  (g.Stream_Flip a1 20 (fun r2 r3 => (bif r2 then (g.Stream_Odd r3 0 30000000000 (fun r4 r5 => k0 r4 r5)) else (g.Stream_Range r3 0 330 (fun r6 r7 => k0 r6 r7)))))
noncomputable def I_Stream_Near [Fuel] : C_Stream_Near := ⟨NN, @Stream_Flip _, @Stream_Range _, @Stream_Odd _⟩
noncomputable def Stream_Near [Fuel] : T_Stream_Near := @Stream_Near_ I_Stream_Near
def SS_Stream_Near (g : T_Stream_Near) : Spec A := fun args => match args with | [.box [.d (.sl 3 a1), .d (.int .i64 a2)]] => fun k => g ⟨a1, a2⟩ (fun z0 z1 => k (.d (.int .i64 z0)) [.box [.d (.sl 3 z1.f_L), .d (.int .i64 z1.f_at)]]) | _ => fun _ => none
noncomputable def code_28 : Code := (Tryz.f28.body).getD .skip
noncomputable def E_Stream_Near (g : C_Stream_Near) : Env A := mkE [(48, SS_Stream_Flip g.Stream_Flip), (51, SS_Stream_Range g.Stream_Range), (52, SS_Stream_Odd g.Stream_Odd)] [] [] [] [] [] [] [] [] [0]
theorem sm_Stream_Near (g : C_Stream_Near) : Same (SS_Stream_Near (@Stream_Near_ g)) (abody (E_Stream_Near g) Tryz.f28 code_28 1 [0] [.asis] g.N) := by intro args; unfold SS_Stream_Near; split; exact .inr fun R k => (by kernel_rfl); exact .inl fun R k => rfl
theorem ok_Stream_Near [Fuel] : Ok 28 (SS_Stream_Near (@Stream_Near _)) := okF_of std (.cons ok_Stream_Flip (.cons ok_Stream_Range (.cons ok_Stream_Odd .nil))) ⟨rfl, rfl, by kernel_rfl, rfl, rfl, rfl⟩ (sm_Stream_Near I_Stream_Near) (cuts0 (fun _ => rfl) (by kernel_rfl)) Tryz.func28 (by kernel_rfl) (by kernel_rfl)
abbrev T_call_isLetter : Type 1 := Int → {R : Type} → (Bool → Option R) → Option R
def call_isLetter_ (g : Nat) (a1 : Int) {R : Type} (k0 : Bool → Option R) : Option R :=
  (bif (decide (a1 ≥ 97)) then k0 (decide (a1 ≤ 122)) else k0 false)
noncomputable def call_isLetter [Fuel] : T_call_isLetter := @call_isLetter_ NN
def SS_call_isLetter (g : T_call_isLetter) : Spec A := fun args => match args with | [.d (.int .u8 a1)] => fun k => g a1 (fun z0 => k (.d (.bool z0)) [.undef]) | _ => fun _ => none
noncomputable def code_228 : Code := (Tryz.f228.body).getD .skip
noncomputable def E_call_isLetter (g : Nat) : Env A := mkE [] [] [] [] [] [] [] [] [] []
theorem sm_call_isLetter (g : Nat) : Same (SS_call_isLetter (@call_isLetter_ g)) (abody (E_call_isLetter g) Tryz.f228 code_228 0 [] [.asis] g) := by intro args; unfold SS_call_isLetter; split; exact .inr fun R k => (by kernel_rfl); exact .inl fun R k => rfl
theorem ok_call_isLetter [Fuel] : Ok 228 (SS_call_isLetter (@call_isLetter _)) := okF_of std .nil ⟨rfl, rfl, by kernel_rfl, rfl, rfl, rfl⟩ (sm_call_isLetter NN) (cuts0 (fun _ => rfl) (by kernel_rfl)) Tryz.func228 (by kernel_rfl) (by kernel_rfl)
abbrev T_call_isDigit : Type 1 := Int → {R : Type} → (Bool → Option R) → Option R
def call_isDigit_ (g : Nat) (a1 : Int) {R : Type} (k0 : Bool → Option R) : Option R :=
  (bif (decide (a1 ≥ 48)) then k0 (decide (a1 ≤ 57)) else k0 false)
noncomputable def call_isDigit [Fuel] : T_call_isDigit := @call_isDigit_ NN
def SS_call_isDigit (g : T_call_isDigit) : Spec A := fun args => match args with | [.d (.int .u8 a1)] => fun k => g a1 (fun z0 => k (.d (.bool z0)) [.undef]) | _ => fun _ => none
noncomputable def code_207 : Code := (Tryz.f207.body).getD .skip
noncomputable def E_call_isDigit (g : Nat) : Env A := mkE [] [] [] [] [] [] [] [] [] []
theorem sm_call_isDigit (g : Nat) : Same (SS_call_isDigit (@call_isDigit_ g)) (abody (E_call_isDigit g) Tryz.f207 code_207 0 [] [.asis] g) := by intro args; unfold SS_call_isDigit; split; exact .inr fun R k => (by kernel_rfl); exact .inl fun R k => rfl
theorem ok_call_isDigit [Fuel] : Ok 207 (SS_call_isDigit (@call_isDigit _)) := okF_of std .nil ⟨rfl, rfl, by kernel_rfl, rfl, rfl, rfl⟩ (sm_call_isDigit NN) (cuts0 (fun _ => rfl) (by kernel_rfl)) Tryz.func207 (by kernel_rfl) (by kernel_rfl)
abbrev T_call_isPlain : Type 1 := List UInt8 → {R : Type} → (Int → Bool → Option R) → Option R
structure C_call_isPlain where
  N : Nat
  call_isDigit : T_call_isDigit
  call_isLetter : T_call_isLetter
def call_isPlain_L2 (g : C_call_isPlain) : Nat → List UInt8 → Int → Int → Int → {R : Type} → (Int → Bool → Option R) → (Int → Option R) → Option R
  | 0, _, _, _, _, _, _, _ => none
  | n + 1, v2, v3, v4, v5, _, e0, e1 => (bif (decide (v5 < v4)) then (get_ v2 v5 fun x10 => (g.call_isLetter (x10.toNat : Int) (fun r11 => (bif r11 then call_isPlain_L2 g n v2 (w64 (v3 + 1)) v4 (w64 (v5 + 1)) e0 e1 else (get_ v2 v5 fun x12 => (g.call_isDigit (x12.toNat : Int) (fun r13 => (bif (!r13) then e0 0 false else call_isPlain_L2 g n v2 v3 v4 (w64 (v5 + 1)) e0 e1)))))))) else e1 v3)
def call_isPlain_ (g : C_call_isPlain) (a1 : List UInt8) {R : Type} (k0 : Int → Bool → Option R) : Option R :=
  (call_isPlain_L2 g g.N a1 0 (a1.length : Int) 0 (fun e14 e15 => k0 e14 e15) (fun e16 => k0 e16 true))
noncomputable def I_call_isPlain [Fuel] : C_call_isPlain := ⟨NN, @call_isDigit _, @call_isLetter _⟩
noncomputable def call_isPlain [Fuel] : T_call_isPlain := @call_isPlain_ I_call_isPlain
def SS_call_isPlain (g : T_call_isPlain) : Spec A := fun args => match args with | [.d (.str a1)] => fun k => g a1 (fun z0 z1 => k (.tup [.d (.int .i64 z0), .d (.bool z1)]) [.undef]) | _ => fun _ => none
def sh_call_isPlain_L2 : SSt := mkSh 25 0 [(0, .str), (2, .int .i64), (6, .int .i64), (7, .int .i64)] []
def LP_call_isPlain_L2 (g : C_call_isPlain) (n : Nat) : LPT A := fun ps => match ps with | [.d (.str p1), .d (.int .i64 p2), .d (.int .i64 p3), .d (.int .i64 p4)] => fun K => call_isPlain_L2 g n p1 p2 p3 p4 (fun z0 z1 => K .ret (mkSt 25 0 [(2, .d (.int .i64 z0)), (3, .d (.bool z1))] [])) (fun z0 => K (.exit 0) (mkSt 25 0 [(2, .d (.int .i64 z0))] [])) | _ => fun _ => none
noncomputable def code_206 : Code := (Tryz.f206.body).getD .skip
noncomputable def E_call_isPlain (g : C_call_isPlain) : Env A := mkE [(207, SS_call_isDigit g.call_isDigit), (228, SS_call_isLetter g.call_isLetter)] [] [(2, ⟨[0, 2, 6, 7], [], [], []⟩)] [(2, ⟨[2, 3], [], [], []⟩)] [(2, pieceOf sh_call_isPlain_L2 (LP_call_isPlain_L2 g g.N))] [] [] [] [] []
theorem ct_call_isPlain [Fuel] : NatTab (E_call_isPlain I_call_isPlain).C := ct_of (P := Tryz.prog) (T := T) (.cons ok_call_isDigit (.cons ok_call_isLetter .nil)) (by kernel_rfl)
noncomputable def cb_call_isPlain_L2 : Code := sub [1, 0, 1, 0, 0] code_206
theorem s_call_isPlain_L2 (g : C_call_isPlain) (n : Nat) : StepOk (E_call_isPlain g) g.N cb_call_isPlain_L2 sh_call_isPlain_L2 (LP_call_isPlain_L2 g) n := by intro ps; unfold LP_call_isPlain_L2; split; exact .inr fun R K => (by kernel_rfl); exact .inl fun R K => rfl
theorem lf_call_isPlain_L2 [Fuel] : LoopFine (E_call_isPlain I_call_isPlain) NN cb_call_isPlain_L2 := fine_loop sh_call_isPlain_L2 (LP_call_isPlain_L2 I_call_isPlain) (by kernel_rfl) ct_call_isPlain (cuts0 (fun _ => rfl) (by kernel_rfl)) (fun ps R K => by unfold LP_call_isPlain_L2; split <;> (try unfold call_isPlain_L2) <;> rfl) (s_call_isPlain_L2 I_call_isPlain)
theorem sm_call_isPlain (g : C_call_isPlain) : Same (SS_call_isPlain (@call_isPlain_ g)) (abody (E_call_isPlain g) Tryz.f206 code_206 0 [] [.asis, .asis] g.N) := by intro args; unfold SS_call_isPlain; split; exact .inr fun R k => (by kernel_rfl); exact .inl fun R k => rfl
theorem ok_call_isPlain [Fuel] : Ok 206 (SS_call_isPlain (@call_isPlain _)) := okF_of std (.cons ok_call_isDigit (.cons ok_call_isLetter .nil)) ⟨rfl, rfl, by kernel_rfl, rfl, rfl, rfl⟩ (sm_call_isPlain I_call_isPlain) (cutsL (fun _ => rfl) (.cons lf_call_isPlain_L2 .nil) (by kernel_rfl)) Tryz.func206 (by kernel_rfl) (by kernel_rfl)
abbrev T_strings_IndexRune : Type 1 := List UInt8 → Int → {R : Type} → (Int → Option R) → Option R
def strings_IndexRune [Fuel] : T_strings_IndexRune := @X_ixr
def SS_strings_IndexRune (g : T_strings_IndexRune) : Spec A := SSX_ixr g
theorem ok_strings_IndexRune [Fuel] : Ok 222 (SS_strings_IndexRune (@strings_IndexRune _)) := ⟨ssx_ixr_sound (ixr_sound (fun s r w h0 h1 => Any.strings_IndexRune_ascii Tryz.lays152 s r w h0 h1)), ssx_ixr_nat, enters_of (fn := Tryz.f222) Tryz.func222 (by kernel_rfl) (by kernel_rfl)⟩
abbrev T_strings_shouldUseASCIISet : Type 1 := Int → {R : Type} → (Bool → Option R) → Option R
def strings_shouldUseASCIISet_ (g : Nat) (a1 : Int) {R : Type} (k0 : Bool → Option R) : Option R :=
  k0 (decide (a1 > 8))
noncomputable def strings_shouldUseASCIISet [Fuel] : T_strings_shouldUseASCIISet := @strings_shouldUseASCIISet_ NN
def SS_strings_shouldUseASCIISet (g : T_strings_shouldUseASCIISet) : Spec A := fun args => match args with | [.d (.int .i64 a1)] => fun k => g a1 (fun z0 => k (.d (.bool z0)) [.undef]) | _ => fun _ => none
noncomputable def code_230 : Code := (Tryz.f230.body).getD .skip
noncomputable def E_strings_shouldUseASCIISet (g : Nat) : Env A := mkE [] [] [] [] [] [] [] [] [] []
theorem sm_strings_shouldUseASCIISet (g : Nat) : Same (SS_strings_shouldUseASCIISet (@strings_shouldUseASCIISet_ g)) (abody (E_strings_shouldUseASCIISet g) Tryz.f230 code_230 0 [] [.asis] g) := by intro args; unfold SS_strings_shouldUseASCIISet; split; exact .inr fun R k => (by kernel_rfl); exact .inl fun R k => rfl
theorem ok_strings_shouldUseASCIISet [Fuel] : Ok 230 (SS_strings_shouldUseASCIISet (@strings_shouldUseASCIISet _)) := okF_of std .nil ⟨rfl, rfl, by kernel_rfl, rfl, rfl, rfl⟩ (sm_strings_shouldUseASCIISet NN) (cuts0 (fun _ => rfl) (by kernel_rfl)) Tryz.func230 (by kernel_rfl) (by kernel_rfl)
abbrev T_strings_makeASCIISet : Type 1 := List UInt8 → {R : Type} → Option R
def strings_makeASCIISet_ (g : Nat) (a1 : List UInt8) {R : Type}  : Option R :=
  none
noncomputable def strings_makeASCIISet [Fuel] : T_strings_makeASCIISet := @strings_makeASCIISet_ NN
def SS_strings_makeASCIISet (g : T_strings_makeASCIISet) : Spec A := fun args => match args with | [.d (.str a1)] => fun k => g a1 | _ => fun _ => none
noncomputable def code_142 : Code := (Tryz.f142.body).getD .skip
noncomputable def E_strings_makeASCIISet (g : Nat) : Env A := mkE [] [] [] [] [] [] [] [] [] []
noncomputable def cb_strings_makeASCIISet_L2 : Code := sub [1, 0, 1, 0, 0] code_142
theorem lf_strings_makeASCIISet_L2 [Fuel] : LoopFine (E_strings_makeASCIISet NN) NN cb_strings_makeASCIISet_L2 := no_loop (by kernel_rfl)
theorem sm_strings_makeASCIISet (g : Nat) : Same (SS_strings_makeASCIISet (@strings_makeASCIISet_ g)) (abody (E_strings_makeASCIISet g) Tryz.f142 code_142 0 [] [.asis, .asis] g) := by intro args; unfold SS_strings_makeASCIISet; split; exact .inr fun R k => (by kernel_rfl); exact .inl fun R k => rfl
theorem ok_strings_makeASCIISet [Fuel] : Ok 142 (SS_strings_makeASCIISet (@strings_makeASCIISet _)) := okF_of std .nil ⟨rfl, rfl, by kernel_rfl, rfl, rfl, rfl⟩ (sm_strings_makeASCIISet NN) (cutsL (fun _ => rfl) (.cons lf_strings_makeASCIISet_L2 .nil) (by kernel_rfl)) Tryz.func142 (by kernel_rfl) (by kernel_rfl)
abbrev T_utf8_RuneStart : Type 1 := Int → {R : Type} → Option R
def utf8_RuneStart_ (g : Nat) (a1 : Int) {R : Type}  : Option R :=
  none
noncomputable def utf8_RuneStart [Fuel] : T_utf8_RuneStart := @utf8_RuneStart_ NN
def SS_utf8_RuneStart (g : T_utf8_RuneStart) : Spec A := fun args => match args with | [.d (.int .u8 a1)] => fun k => g a1 | _ => fun _ => none
noncomputable def code_223 : Code := (Tryz.f223.body).getD .skip
noncomputable def E_utf8_RuneStart (g : Nat) : Env A := mkE [] [] [] [] [] [] [] [] [] []
theorem sm_utf8_RuneStart (g : Nat) : Same (SS_utf8_RuneStart (@utf8_RuneStart_ g)) (abody (E_utf8_RuneStart g) Tryz.f223 code_223 0 [] [.asis] g) := by intro args; unfold SS_utf8_RuneStart; split; exact .inr fun R k => (by kernel_rfl); exact .inl fun R k => rfl
theorem ok_utf8_RuneStart [Fuel] : Ok 223 (SS_utf8_RuneStart (@utf8_RuneStart _)) := okF_of std .nil ⟨rfl, rfl, by kernel_rfl, rfl, rfl, rfl⟩ (sm_utf8_RuneStart NN) (cuts0 (fun _ => rfl) (by kernel_rfl)) Tryz.func223 (by kernel_rfl) (by kernel_rfl)
abbrev T_utf8_decodeRuneInStringSlow : Type 1 := List UInt8 → {R : Type} → (Int → Int → Option R) → Option R
def utf8_decodeRuneInStringSlow_ (g : Nat) (a1 : List UInt8) {R : Type} (k0 : Int → Int → Option R) : Option R :=
  (bif (decide ((a1.length : Int) < 1)) then k0 65533 0 else (at_ a1 0 fun x2 => none))
noncomputable def utf8_decodeRuneInStringSlow [Fuel] : T_utf8_decodeRuneInStringSlow := @utf8_decodeRuneInStringSlow_ NN
def SS_utf8_decodeRuneInStringSlow (g : T_utf8_decodeRuneInStringSlow) : Spec A := fun args => match args with | [.d (.str a1)] => fun k => g a1 (fun z0 z1 => k (.tup [.d (.int .i32 z0), .d (.int .i64 z1)]) [.undef]) | _ => fun _ => none
noncomputable def code_221 : Code := (Tryz.f221.body).getD .skip
noncomputable def E_utf8_decodeRuneInStringSlow (g : Nat) : Env A := mkE [] [] [] [] [] [] [] [] [] []
theorem sm_utf8_decodeRuneInStringSlow (g : Nat) : Same (SS_utf8_decodeRuneInStringSlow (@utf8_decodeRuneInStringSlow_ g)) (abody (E_utf8_decodeRuneInStringSlow g) Tryz.f221 code_221 0 [] [.asis, .asis] g) := by intro args; unfold SS_utf8_decodeRuneInStringSlow; split; exact .inr fun R k => (by kernel_rfl); exact .inl fun R k => rfl
theorem ok_utf8_decodeRuneInStringSlow [Fuel] : Ok 221 (SS_utf8_decodeRuneInStringSlow (@utf8_decodeRuneInStringSlow _)) := okF_of std .nil ⟨rfl, rfl, by kernel_rfl, rfl, rfl, rfl⟩ (sm_utf8_decodeRuneInStringSlow NN) (cuts0 (fun _ => rfl) (by kernel_rfl)) Tryz.func221 (by kernel_rfl) (by kernel_rfl)
abbrev T_utf8_DecodeRuneInString : Type 1 := List UInt8 → {R : Type} → (Int → Int → Option R) → Option R
structure C_utf8_DecodeRuneInString where
  N : Nat
  utf8_decodeRuneInStringSlow : T_utf8_decodeRuneInStringSlow
def utf8_DecodeRuneInString_ (g : C_utf8_DecodeRuneInString) (a1 : List UInt8) {R : Type} (k0 : Int → Int → Option R) : Option R :=
  (bif (!(a1 == [])) then (at_ a1 0 fun x2 => (bif (decide ((x2.toNat : Int) < 128)) then (at_ a1 0 fun x3 => k0 (IntKind.i32.wrap (x3.toNat : Int)) 1) else (g.utf8_decodeRuneInStringSlow a1 (fun r4 r5 => k0 r4 r5)))) else (g.utf8_decodeRuneInStringSlow a1 (fun r6 r7 => k0 r6 r7)))
noncomputable def I_utf8_DecodeRuneInString [Fuel] : C_utf8_DecodeRuneInString := ⟨NN, @utf8_decodeRuneInStringSlow _⟩
noncomputable def utf8_DecodeRuneInString [Fuel] : T_utf8_DecodeRuneInString := @utf8_DecodeRuneInString_ I_utf8_DecodeRuneInString
def SS_utf8_DecodeRuneInString (g : T_utf8_DecodeRuneInString) : Spec A := fun args => match args with | [.d (.str a1)] => fun k => g a1 (fun z0 z1 => k (.tup [.d (.int .i32 z0), .d (.int .i64 z1)]) [.undef]) | _ => fun _ => none
noncomputable def code_189 : Code := (Tryz.f189.body).getD .skip
noncomputable def E_utf8_DecodeRuneInString (g : C_utf8_DecodeRuneInString) : Env A := mkE [(221, SS_utf8_decodeRuneInStringSlow g.utf8_decodeRuneInStringSlow)] [] [] [] [] [] [] [] [] []
theorem sm_utf8_DecodeRuneInString (g : C_utf8_DecodeRuneInString) : Same (SS_utf8_DecodeRuneInString (@utf8_DecodeRuneInString_ g)) (abody (E_utf8_DecodeRuneInString g) Tryz.f189 code_189 0 [] [.asis, .asis] g.N) := by intro args; unfold SS_utf8_DecodeRuneInString; split; exact .inr fun R k => (by kernel_rfl); exact .inl fun R k => rfl
theorem ok_utf8_DecodeRuneInString [Fuel] : Ok 189 (SS_utf8_DecodeRuneInString (@utf8_DecodeRuneInString _)) := okF_of std (.cons ok_utf8_decodeRuneInStringSlow .nil) ⟨rfl, rfl, by kernel_rfl, rfl, rfl, rfl⟩ (sm_utf8_DecodeRuneInString I_utf8_DecodeRuneInString) (cuts0 (fun _ => rfl) (by kernel_rfl)) Tryz.func189 (by kernel_rfl) (by kernel_rfl)
abbrev T_utf8_DecodeLastRuneInString : Type 1 := List UInt8 → {R : Type} → (Int → Int → Option R) → Option R
structure C_utf8_DecodeLastRuneInString where
  N : Nat
  utf8_DecodeRuneInString : T_utf8_DecodeRuneInString
  utf8_RuneStart : T_utf8_RuneStart
def utf8_DecodeLastRuneInString_L10 (g : C_utf8_DecodeLastRuneInString) : Nat → List UInt8 → Int → Int → Int → {R : Type} → (List UInt8 → Int → Int → Option R) → Option R
  | 0, _, _, _, _, _, _ => none
  | n + 1, v3, v4, v5, v6, _, e0 => (bif (decide (v5 ≥ v6)) then (get_ v3 v5 fun x8 => (g.utf8_RuneStart (x8.toNat : Int))) else e0 v3 v4 v5)
def utf8_DecodeLastRuneInString_ (g : C_utf8_DecodeLastRuneInString) (a1 : List UInt8) {R : Type} (k0 : Int → Int → Option R) : Option R :=
  (bif ((a1.length : Int) == 0) then k0 65533 0 else (get_ a1 (w64 ((a1.length : Int) - 1)) fun x2 => (bif (decide ((IntKind.i32.wrap (x2.toNat : Int)) < 128)) then k0 (IntKind.i32.wrap (x2.toNat : Int)) 1 else (utf8_DecodeLastRuneInString_L10 g g.N a1 (a1.length : Int) (w64 ((w64 ((a1.length : Int) - 1)) - 1)) (if 0 > (w64 ((a1.length : Int) - 4)) then 0 else (w64 ((a1.length : Int) - 4))) (fun e9 e10 e11 => (bif (decide (e11 < 0)) then (bif (decide (0 ≤ 0) && (decide (0 ≤ e10) && decide (e10 ≤ (e9.length : Int)))) then (g.utf8_DecodeRuneInString ((e9.take (e10 : Int).toNat).drop (0 : Int).toNat) (fun r12 r13 => (bif ((w64 (0 + r13)) != e10) then k0 65533 1 else k0 r12 r13))) else none) else (bif (decide (0 ≤ e11) && (decide (e11 ≤ e10) && decide (e10 ≤ (e9.length : Int)))) then (g.utf8_DecodeRuneInString ((e9.take (e10 : Int).toNat).drop (e11 : Int).toNat) (fun r14 r15 => (bif ((w64 (e11 + r15)) != e10) then k0 65533 1 else k0 r14 r15))) else none)))))))
noncomputable def I_utf8_DecodeLastRuneInString [Fuel] : C_utf8_DecodeLastRuneInString := ⟨NN, @utf8_DecodeRuneInString _, @utf8_RuneStart _⟩
noncomputable def utf8_DecodeLastRuneInString [Fuel] : T_utf8_DecodeLastRuneInString := @utf8_DecodeLastRuneInString_ I_utf8_DecodeLastRuneInString
def SS_utf8_DecodeLastRuneInString (g : T_utf8_DecodeLastRuneInString) : Spec A := fun args => match args with | [.d (.str a1)] => fun k => g a1 (fun z0 z1 => k (.tup [.d (.int .i32 z0), .d (.int .i64 z1)]) [.undef]) | _ => fun _ => none
def sh_utf8_DecodeLastRuneInString_L10 : SSt := mkSh 51 0 [(0, .str), (4, .int .i64), (5, .int .i64), (6, .int .i64)] []
def LP_utf8_DecodeLastRuneInString_L10 (g : C_utf8_DecodeLastRuneInString) (n : Nat) : LPT A := fun ps => match ps with | [.d (.str p1), .d (.int .i64 p2), .d (.int .i64 p3), .d (.int .i64 p4)] => fun K => utf8_DecodeLastRuneInString_L10 g n p1 p2 p3 p4 (fun z0 z1 z2 => K (.exit 0) (mkSt 51 0 [(0, .d (.str z0)), (4, .d (.int .i64 z1)), (5, .d (.int .i64 z2))] [])) | _ => fun _ => none
noncomputable def code_191 : Code := (Tryz.f191.body).getD .skip
noncomputable def E_utf8_DecodeLastRuneInString (g : C_utf8_DecodeLastRuneInString) : Env A := mkE [(189, SS_utf8_DecodeRuneInString g.utf8_DecodeRuneInString), (223, SS_utf8_RuneStart g.utf8_RuneStart)] [] [(10, ⟨[0, 4, 5, 6], [], [], []⟩)] [(10, ⟨[0, 4, 5], [], [], []⟩)] [(10, pieceOf sh_utf8_DecodeLastRuneInString_L10 (LP_utf8_DecodeLastRuneInString_L10 g g.N))] [] [] [] [] []
theorem ct_utf8_DecodeLastRuneInString [Fuel] : NatTab (E_utf8_DecodeLastRuneInString I_utf8_DecodeLastRuneInString).C := ct_of (P := Tryz.prog) (T := T) (.cons ok_utf8_DecodeRuneInString (.cons ok_utf8_RuneStart .nil)) (by kernel_rfl)
noncomputable def cb_utf8_DecodeLastRuneInString_L10 : Code := sub [1, 1, 1, 1, 1, 1, 1, 0, 1, 0, 0] code_191
theorem s_utf8_DecodeLastRuneInString_L10 (g : C_utf8_DecodeLastRuneInString) (n : Nat) : StepOk (E_utf8_DecodeLastRuneInString g) g.N cb_utf8_DecodeLastRuneInString_L10 sh_utf8_DecodeLastRuneInString_L10 (LP_utf8_DecodeLastRuneInString_L10 g) n := by intro ps; unfold LP_utf8_DecodeLastRuneInString_L10; split; exact .inr fun R K => (by kernel_rfl); exact .inl fun R K => rfl
theorem lf_utf8_DecodeLastRuneInString_L10 [Fuel] : LoopFine (E_utf8_DecodeLastRuneInString I_utf8_DecodeLastRuneInString) NN cb_utf8_DecodeLastRuneInString_L10 := fine_loop sh_utf8_DecodeLastRuneInString_L10 (LP_utf8_DecodeLastRuneInString_L10 I_utf8_DecodeLastRuneInString) (by kernel_rfl) ct_utf8_DecodeLastRuneInString (cuts0 (fun _ => rfl) (by kernel_rfl)) (fun ps R K => by unfold LP_utf8_DecodeLastRuneInString_L10; split <;> (try unfold utf8_DecodeLastRuneInString_L10) <;> rfl) (s_utf8_DecodeLastRuneInString_L10 I_utf8_DecodeLastRuneInString)
theorem sm_utf8_DecodeLastRuneInString (g : C_utf8_DecodeLastRuneInString) : Same (SS_utf8_DecodeLastRuneInString (@utf8_DecodeLastRuneInString_ g)) (abody (E_utf8_DecodeLastRuneInString g) Tryz.f191 code_191 0 [] [.asis, .asis] g.N) := by intro args; unfold SS_utf8_DecodeLastRuneInString; split; exact .inr fun R k => (by kernel_rfl); exact .inl fun R k => rfl
theorem ok_utf8_DecodeLastRuneInString [Fuel] : Ok 191 (SS_utf8_DecodeLastRuneInString (@utf8_DecodeLastRuneInString _)) := okF_of std (.cons ok_utf8_DecodeRuneInString (.cons ok_utf8_RuneStart .nil)) ⟨rfl, rfl, by kernel_rfl, rfl, rfl, rfl⟩ (sm_utf8_DecodeLastRuneInString I_utf8_DecodeLastRuneInString) (cutsL (fun _ => rfl) (.cons lf_utf8_DecodeLastRuneInString_L10 .nil) (by kernel_rfl)) Tryz.func191 (by kernel_rfl) (by kernel_rfl)
abbrev T_strings_LastIndexAny : Type 1 := List UInt8 → List UInt8 → {R : Type} → (Int → Option R) → Option R
structure C_strings_LastIndexAny where
  N : Nat
  strings_makeASCIISet : T_strings_makeASCIISet
  utf8_DecodeLastRuneInString : T_utf8_DecodeLastRuneInString
  strings_IndexRune : T_strings_IndexRune
  strings_shouldUseASCIISet : T_strings_shouldUseASCIISet
def strings_LastIndexAny_L24 (g : C_strings_LastIndexAny) : Nat → List UInt8 → Int → Int → {R : Type} → (Int → Option R) → Option R → Option R
  | 0, _, _, _, _, _, _ => none
  | n + 1, v8, v9, v10, _, e0, e1 => (bif (decide (v10 > 0)) then (bif (decide (0 ≤ v10) && decide (v10 ≤ (v8.length : Int))) then (g.utf8_DecodeLastRuneInString (v8.take (v10 : Int).toNat) (fun r13 r14 => (bif (v9 == r13) then e0 (w64 (v10 - r14)) else strings_LastIndexAny_L24 g n v8 v9 (w64 (v10 - r14)) e0 e1))) else none) else e1)
def strings_LastIndexAny_L31 (g : C_strings_LastIndexAny) : Nat → List UInt8 → List UInt8 → Int → {R : Type} → (Int → Option R) → Option R → Option R
  | 0, _, _, _, _, _, _ => none
  | n + 1, v17, v18, v19, _, e0, e1 => (bif (decide (v19 > 0)) then (bif (decide (0 ≤ v19) && decide (v19 ≤ (v17.length : Int))) then (g.utf8_DecodeLastRuneInString (v17.take (v19 : Int).toNat) (fun r23 r24 => (g.strings_IndexRune v18 r23 (fun r25 => (bif (decide (r25 ≥ 0)) then e0 (w64 (v19 - r24)) else strings_LastIndexAny_L31 g n v17 v18 (w64 (v19 - r24)) e0 e1))))) else none) else e1)
def strings_LastIndexAny_ (g : C_strings_LastIndexAny) (a1 a2 : List UInt8) {R : Type} (k0 : Int → Option R) : Option R :=
  (bif (a2 == []) then k0 (-1) else (bif ((a1.length : Int) == 1) then (at_ a1 0 fun x3 => (bif (decide ((IntKind.i32.wrap (x3.toNat : Int)) ≥ 128)) then (g.strings_IndexRune a2 65533 (fun r4 => (bif (decide (r4 ≥ 0)) then k0 0 else k0 (-1)))) else (g.strings_IndexRune a2 (IntKind.i32.wrap (x3.toNat : Int)) (fun r5 => (bif (decide (r5 ≥ 0)) then k0 0 else k0 (-1)))))) else (g.strings_shouldUseASCIISet (a1.length : Int) (fun r6 => (bif r6 then (g.strings_makeASCIISet a2) else (bif ((a2.length : Int) == 1) then (at_ a2 0 fun x7 => (bif (decide ((IntKind.i32.wrap (x7.toNat : Int)) ≥ 128)) then (strings_LastIndexAny_L24 g g.N a1 65533 (a1.length : Int) (fun e15 => k0 e15) (k0 (-1))) else (strings_LastIndexAny_L24 g g.N a1 (IntKind.i32.wrap (x7.toNat : Int)) (a1.length : Int) (fun e16 => k0 e16) (k0 (-1))))) else (strings_LastIndexAny_L31 g g.N a1 a2 (a1.length : Int) (fun e26 => k0 e26) (k0 (-1)))))))))
noncomputable def I_strings_LastIndexAny [Fuel] : C_strings_LastIndexAny := ⟨NN, @strings_makeASCIISet _, @utf8_DecodeLastRuneInString _, @strings_IndexRune _, @strings_shouldUseASCIISet _⟩
noncomputable def strings_LastIndexAny [Fuel] : T_strings_LastIndexAny := @strings_LastIndexAny_ I_strings_LastIndexAny
def SS_strings_LastIndexAny (g : T_strings_LastIndexAny) : Spec A := fun args => match args with | [.d (.str a1), .d (.str a2)] => fun k => g a1 a2 (fun z0 => k (.d (.int .i64 z0)) [.undef, .undef]) | _ => fun _ => none
def sh_strings_LastIndexAny_L24 : SSt := mkSh 96 0 [(0, .str), (9, .int .i32), (10, .int .i64)] []
def LP_strings_LastIndexAny_L24 (g : C_strings_LastIndexAny) (n : Nat) : LPT A := fun ps => match ps with | [.d (.str p1), .d (.int .i32 p2), .d (.int .i64 p3)] => fun K => strings_LastIndexAny_L24 g n p1 p2 p3 (fun z0 => K .ret (mkSt 96 0 [(4, .d (.int .i64 z0))] [])) (K (.exit 2) (mkSt 96 0 [] [])) | _ => fun _ => none
def sh_strings_LastIndexAny_L31 : SSt := mkSh 96 0 [(0, .str), (1, .str), (13, .int .i64)] []
def LP_strings_LastIndexAny_L31 (g : C_strings_LastIndexAny) (n : Nat) : LPT A := fun ps => match ps with | [.d (.str p1), .d (.str p2), .d (.int .i64 p3)] => fun K => strings_LastIndexAny_L31 g n p1 p2 p3 (fun z0 => K .ret (mkSt 96 0 [(4, .d (.int .i64 z0))] [])) (K (.exit 4) (mkSt 96 0 [] [])) | _ => fun _ => none
noncomputable def code_213 : Code := (Tryz.f213.body).getD .skip
noncomputable def E_strings_LastIndexAny (g : C_strings_LastIndexAny) : Env A := mkE [(142, SS_strings_makeASCIISet g.strings_makeASCIISet), (191, SS_utf8_DecodeLastRuneInString g.utf8_DecodeLastRuneInString), (222, SS_strings_IndexRune g.strings_IndexRune), (230, SS_strings_shouldUseASCIISet g.strings_shouldUseASCIISet)] [] [(24, ⟨[0, 9, 10], [], [], []⟩), (31, ⟨[0, 1, 13], [], [], []⟩)] [(24, ⟨[4], [], [], []⟩), (31, ⟨[4], [], [], []⟩)] [(24, pieceOf sh_strings_LastIndexAny_L24 (LP_strings_LastIndexAny_L24 g g.N)), (31, pieceOf sh_strings_LastIndexAny_L31 (LP_strings_LastIndexAny_L31 g g.N))] [] [] [] [] []
theorem ct_strings_LastIndexAny [Fuel] : NatTab (E_strings_LastIndexAny I_strings_LastIndexAny).C := ct_of (P := Tryz.prog) (T := T) (.cons ok_strings_makeASCIISet (.cons ok_utf8_DecodeLastRuneInString (.cons ok_strings_IndexRune (.cons ok_strings_shouldUseASCIISet .nil)))) (by kernel_rfl)
noncomputable def cb_strings_LastIndexAny_L14 : Code := sub [1, 1, 1, 0, 1, 0, 1, 1, 0, 0, 1, 0, 0] code_213
theorem lf_strings_LastIndexAny_L14 [Fuel] : LoopFine (E_strings_LastIndexAny I_strings_LastIndexAny) NN cb_strings_LastIndexAny_L14 := no_loop (by kernel_rfl)
noncomputable def cb_strings_LastIndexAny_L24 : Code := sub [1, 1, 1, 1, 0, 1, 0, 1, 1, 0, 1, 0, 0] code_213
theorem s_strings_LastIndexAny_L24 (g : C_strings_LastIndexAny) (n : Nat) : StepOk (E_strings_LastIndexAny g) g.N cb_strings_LastIndexAny_L24 sh_strings_LastIndexAny_L24 (LP_strings_LastIndexAny_L24 g) n := by intro ps; unfold LP_strings_LastIndexAny_L24; split; exact .inr fun R K => (by kernel_rfl); exact .inl fun R K => rfl
theorem lf_strings_LastIndexAny_L24 [Fuel] : LoopFine (E_strings_LastIndexAny I_strings_LastIndexAny) NN cb_strings_LastIndexAny_L24 := fine_loop sh_strings_LastIndexAny_L24 (LP_strings_LastIndexAny_L24 I_strings_LastIndexAny) (by kernel_rfl) ct_strings_LastIndexAny (cuts0 (fun _ => rfl) (by kernel_rfl)) (fun ps R K => by unfold LP_strings_LastIndexAny_L24; split <;> (try unfold strings_LastIndexAny_L24) <;> rfl) (s_strings_LastIndexAny_L24 I_strings_LastIndexAny)
noncomputable def cb_strings_LastIndexAny_L31 : Code := sub [1, 1, 1, 1, 1, 0, 1, 0, 0] code_213
theorem s_strings_LastIndexAny_L31 (g : C_strings_LastIndexAny) (n : Nat) : StepOk (E_strings_LastIndexAny g) g.N cb_strings_LastIndexAny_L31 sh_strings_LastIndexAny_L31 (LP_strings_LastIndexAny_L31 g) n := by intro ps; unfold LP_strings_LastIndexAny_L31; split; exact .inr fun R K => (by kernel_rfl); exact .inl fun R K => rfl
theorem lf_strings_LastIndexAny_L31 [Fuel] : LoopFine (E_strings_LastIndexAny I_strings_LastIndexAny) NN cb_strings_LastIndexAny_L31 := fine_loop sh_strings_LastIndexAny_L31 (LP_strings_LastIndexAny_L31 I_strings_LastIndexAny) (by kernel_rfl) ct_strings_LastIndexAny (cuts0 (fun _ => rfl) (by kernel_rfl)) (fun ps R K => by unfold LP_strings_LastIndexAny_L31; split <;> (try unfold strings_LastIndexAny_L31) <;> rfl) (s_strings_LastIndexAny_L31 I_strings_LastIndexAny)
theorem sm_strings_LastIndexAny (g : C_strings_LastIndexAny) : Same (SS_strings_LastIndexAny (@strings_LastIndexAny_ g)) (abody (E_strings_LastIndexAny g) Tryz.f213 code_213 0 [] [.asis] g.N) := by intro args; unfold SS_strings_LastIndexAny; split; exact .inr fun R k => (by kernel_rfl); exact .inl fun R k => rfl
theorem ok_strings_LastIndexAny [Fuel] : Ok 213 (SS_strings_LastIndexAny (@strings_LastIndexAny _)) := okF_of std (.cons ok_strings_makeASCIISet (.cons ok_utf8_DecodeLastRuneInString (.cons ok_strings_IndexRune (.cons ok_strings_shouldUseASCIISet .nil)))) ⟨rfl, rfl, by kernel_rfl, rfl, rfl, rfl⟩ (sm_strings_LastIndexAny I_strings_LastIndexAny) (cutsL (fun _ => rfl) (.cons lf_strings_LastIndexAny_L14 (.cons lf_strings_LastIndexAny_L24 (.cons lf_strings_LastIndexAny_L31 .nil))) (by kernel_rfl)) Tryz.func213 (by kernel_rfl) (by kernel_rfl)
abbrev T_call_split : Type 1 := List UInt8 → {R : Type} → (Int → Bool → Option R) → Option R
structure C_call_split where
  N : Nat
  call_isPlain : T_call_isPlain
  strings_LastIndexAny : T_strings_LastIndexAny
def call_split_ (g : C_call_split) (a1 : List UInt8) {R : Type} (k0 : Int → Bool → Option R) : Option R :=
  (g.call_isPlain a1 (fun r2 r3 => (bif (!r3) then k0 0 false else (bif (decide ((a1.length : Int) > 10)) then k0 0 false else (g.strings_LastIndexAny a1 [48, 49, 50, 51, 52, 53, 54, 55, 56, 57] (fun r4 => (bif (decide (r4 < 1)) then k0 0 false else (bif (decide (r4 > 3)) then k0 0 false else (bif (decide ((w64 ((w64 ((a1.length : Int) - r4)) - 1)) < 1)) then k0 0 false else (bif (decide ((w64 ((w64 ((a1.length : Int) - r4)) - 1)) > 4)) then k0 0 false else (bif (decide (0 ≤ r4) && decide (r4 ≤ (a1.length : Int))) then (g.call_isPlain (a1.take (r4 : Int).toNat) (fun r5 r6 => k0 r4 (decide (r5 > 0)))) else none)))))))))))
noncomputable def I_call_split [Fuel] : C_call_split := ⟨NN, @call_isPlain _, @strings_LastIndexAny _⟩
noncomputable def call_split [Fuel] : T_call_split := @call_split_ I_call_split
def SS_call_split (g : T_call_split) : Spec A := fun args => match args with | [.d (.str a1)] => fun k => g a1 (fun z0 z1 => k (.tup [.d (.int .i64 z0), .d (.bool z1)]) [.undef]) | _ => fun _ => none
noncomputable def code_204 : Code := (Tryz.f204.body).getD .skip
noncomputable def E_call_split (g : C_call_split) : Env A := mkE [(206, SS_call_isPlain g.call_isPlain), (213, SS_strings_LastIndexAny g.strings_LastIndexAny)] [] [] [] [] [] [] [] [] []
theorem sm_call_split (g : C_call_split) : Same (SS_call_split (@call_split_ g)) (abody (E_call_split g) Tryz.f204 code_204 0 [] [.asis, .asis] g.N) := by intro args; unfold SS_call_split; split; exact .inr fun R k => (by kernel_rfl); exact .inl fun R k => rfl
theorem ok_call_split [Fuel] : Ok 204 (SS_call_split (@call_split _)) := okF_of std (.cons ok_call_isPlain (.cons ok_strings_LastIndexAny .nil)) ⟨rfl, rfl, by kernel_rfl, rfl, rfl, rfl⟩ (sm_call_split I_call_split) (cuts0 (fun _ => rfl) (by kernel_rfl)) Tryz.func204 (by kernel_rfl) (by kernel_rfl)
abbrev T_call_based : Type 1 := List UInt8 → {R : Type} → (G_Parts → Bool → Option R) → Option R
structure C_call_based where
  N : Nat
  call_split : T_call_split
def call_based_ (g : C_call_based) (a1 : List UInt8) {R : Type} (k0 : G_Parts → Bool → Option R) : Option R :=
  (g.call_split a1 (fun r2 r3 => (bif (!r3) then k0 (⟨[], [], [], 0, []⟩ : G_Parts) false else (bif (decide (0 ≤ (w64 (r2 + 1))) && decide ((w64 (r2 + 1)) ≤ (a1.length : Int))) then (bif (decide (0 ≤ (w64 (r2 + 1))) && decide ((w64 (r2 + 1)) ≤ (a1.length : Int))) then k0 (⟨a1, (a1.take ((w64 (r2 + 1)) : Int).toNat), (a1.drop ((w64 (r2 + 1)) : Int).toNat), 0, []⟩ : G_Parts) true else none) else none))))
noncomputable def I_call_based [Fuel] : C_call_based := ⟨NN, @call_split _⟩
noncomputable def call_based [Fuel] : T_call_based := @call_based_ I_call_based
def SS_call_based (g : T_call_based) : Spec A := fun args => match args with | [.d (.str a1)] => fun k => g a1 (fun z0 z1 => k (.tup [.agg [.d (.str z0.f_Base), .d (.str z0.f_Prefix), .d (.str z0.f_Suffix), .d (.int .i64 z0.f_Kind), .d (.str z0.f_Added)], .d (.bool z1)]) [.undef]) | _ => fun _ => none
noncomputable def code_154 : Code := (Tryz.f154.body).getD .skip
noncomputable def E_call_based (g : C_call_based) : Env A := mkE [(204, SS_call_split g.call_split)] [(2, [0])] [] [] [] [] [] [] [] []
theorem sm_call_based (g : C_call_based) : Same (SS_call_based (@call_based_ g)) (abody (E_call_based g) Tryz.f154 code_154 1 [] [.asis, .asis] g.N) := by intro args; unfold SS_call_based; split; exact .inr fun R k => (by kernel_rfl); exact .inl fun R k => rfl
theorem ok_call_based [Fuel] : Ok 154 (SS_call_based (@call_based _)) := okF_of std (.cons ok_call_split .nil) ⟨rfl, rfl, by kernel_rfl, rfl, rfl, rfl⟩ (sm_call_based I_call_based) (cuts0 (fun _ => rfl) (by kernel_rfl)) Tryz.func154 (by kernel_rfl) (by kernel_rfl)
abbrev T_stringslite_Index : Type 1 := List UInt8 → List UInt8 → {R : Type} → (Int → Option R) → Option R
def stringslite_Index [Fuel] : T_stringslite_Index := @X_ix1
def SS_stringslite_Index (g : T_stringslite_Index) : Spec A := SSX_ix1 g
theorem ok_stringslite_Index [Fuel] : Ok 227 (SS_stringslite_Index (@stringslite_Index _)) := ⟨ssx_ix1_sound (ix1_sound (Any.stringslite_Index_one Tryz.lays219)), ssx_ix1_nat, enters_of (fn := Tryz.f227) Tryz.func227 (by kernel_rfl) (by kernel_rfl)⟩
abbrev T_stringslite_Cut : Type 1 := List UInt8 → List UInt8 → {R : Type} → (List UInt8 → List UInt8 → Bool → Option R) → Option R
structure C_stringslite_Cut where
  N : Nat
  stringslite_Index : T_stringslite_Index
def stringslite_Cut_ (g : C_stringslite_Cut) (a1 a2 : List UInt8) {R : Type} (k0 : List UInt8 → List UInt8 → Bool → Option R) : Option R :=
  (g.stringslite_Index a1 a2 (fun r3 => (bif (decide (r3 ≥ 0)) then (bif (decide (0 ≤ r3) && decide (r3 ≤ (a1.length : Int))) then (bif (decide (0 ≤ (w64 (r3 + (a2.length : Int)))) && decide ((w64 (r3 + (a2.length : Int))) ≤ (a1.length : Int))) then k0 (a1.take (r3 : Int).toNat) (a1.drop ((w64 (r3 + (a2.length : Int))) : Int).toNat) true else none) else none) else k0 a1 [] false)))
noncomputable def I_stringslite_Cut [Fuel] : C_stringslite_Cut := ⟨NN, @stringslite_Index _⟩
noncomputable def stringslite_Cut [Fuel] : T_stringslite_Cut := @stringslite_Cut_ I_stringslite_Cut
def SS_stringslite_Cut (g : T_stringslite_Cut) : Spec A := fun args => match args with | [.d (.str a1), .d (.str a2)] => fun k => g a1 a2 (fun z0 z1 z2 => k (.tup [.d (.str z0), .d (.str z1), .d (.bool z2)]) [.undef, .undef]) | _ => fun _ => none
noncomputable def code_205 : Code := (Tryz.f205.body).getD .skip
noncomputable def E_stringslite_Cut (g : C_stringslite_Cut) : Env A := mkE [(227, SS_stringslite_Index g.stringslite_Index)] [] [] [] [] [] [] [] [] []
theorem sm_stringslite_Cut (g : C_stringslite_Cut) : Same (SS_stringslite_Cut (@stringslite_Cut_ g)) (abody (E_stringslite_Cut g) Tryz.f205 code_205 0 [] [.asis, .asis, .asis] g.N) := by intro args; unfold SS_stringslite_Cut; split; exact .inr fun R k => (by kernel_rfl); exact .inl fun R k => rfl
theorem ok_stringslite_Cut [Fuel] : Ok 205 (SS_stringslite_Cut (@stringslite_Cut _)) := okF_of std (.cons ok_stringslite_Index .nil) ⟨rfl, rfl, by kernel_rfl, rfl, rfl, rfl⟩ (sm_stringslite_Cut I_stringslite_Cut) (cuts0 (fun _ => rfl) (by kernel_rfl)) Tryz.func205 (by kernel_rfl) (by kernel_rfl)
abbrev T_strings_Cut : Type 1 := List UInt8 → List UInt8 → {R : Type} → (List UInt8 → List UInt8 → Bool → Option R) → Option R
structure C_strings_Cut where
  N : Nat
  stringslite_Cut : T_stringslite_Cut
def strings_Cut_ (g : C_strings_Cut) (a1 a2 : List UInt8) {R : Type} (k0 : List UInt8 → List UInt8 → Bool → Option R) : Option R :=
  (g.stringslite_Cut a1 a2 (fun r3 r4 r5 => k0 r3 r4 r5))
noncomputable def I_strings_Cut [Fuel] : C_strings_Cut := ⟨NN, @stringslite_Cut _⟩
noncomputable def strings_Cut [Fuel] : T_strings_Cut := @strings_Cut_ I_strings_Cut
def SS_strings_Cut (g : T_strings_Cut) : Spec A := fun args => match args with | [.d (.str a1), .d (.str a2)] => fun k => g a1 a2 (fun z0 z1 z2 => k (.tup [.d (.str z0), .d (.str z1), .d (.bool z2)]) [.undef, .undef]) | _ => fun _ => none
noncomputable def code_155 : Code := (Tryz.f155.body).getD .skip
noncomputable def E_strings_Cut (g : C_strings_Cut) : Env A := mkE [(205, SS_stringslite_Cut g.stringslite_Cut)] [] [] [] [] [] [] [] [] []
theorem sm_strings_Cut (g : C_strings_Cut) : Same (SS_strings_Cut (@strings_Cut_ g)) (abody (E_strings_Cut g) Tryz.f155 code_155 0 [] [.asis, .asis, .asis] g.N) := by intro args; unfold SS_strings_Cut; split; exact .inr fun R k => (by kernel_rfl); exact .inl fun R k => rfl
theorem ok_strings_Cut [Fuel] : Ok 155 (SS_strings_Cut (@strings_Cut _)) := okF_of std (.cons ok_stringslite_Cut .nil) ⟨rfl, rfl, by kernel_rfl, rfl, rfl, rfl⟩ (sm_strings_Cut I_strings_Cut) (cuts0 (fun _ => rfl) (by kernel_rfl)) Tryz.func155 (by kernel_rfl) (by kernel_rfl)
end Go.Am
