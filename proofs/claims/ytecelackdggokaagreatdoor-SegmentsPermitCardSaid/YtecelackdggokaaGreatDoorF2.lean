/- The functions of the program as Lean functions, each shown to be what the code computes, part 2. No condition: lemmas for the claim. -/
import Derived.Test.YtecelackdggokaaGreatDoorF0
import Derived.Test.YtecelackdggokaaGreatDoorFSh
import Derived.Test.YtecelackdggokaaGreatDoorF1
set_option linter.unusedVariables false
set_option maxRecDepth 100000
namespace Go.Am
open Go Go.Proofs
abbrev T_slices_SortStableFunc__Segment_Stream_Segments_1 : Type 1 := List G_Segment → {R : Type} → (List G_Segment → Option R) → Option R
structure C_slices_SortStableFunc__Segment_Stream_Segments_1 where
  N : Nat
  slices_stableCmpFunc__Segment_Stream_Segments_1 : T_slices_stableCmpFunc__Segment_Stream_Segments_1
def slices_SortStableFunc__Segment_Stream_Segments_1_ (g : C_slices_SortStableFunc__Segment_Stream_Segments_1) (a1 : List G_Segment) {R : Type} (k0 : List G_Segment → Option R) : Option R :=
  (g.slices_stableCmpFunc__Segment_Stream_Segments_1 a1 (a1.length : Int) (fun r2 => k0 r2))
noncomputable def I_slices_SortStableFunc__Segment_Stream_Segments_1 [Fuel] : C_slices_SortStableFunc__Segment_Stream_Segments_1 := ⟨NN, @slices_stableCmpFunc__Segment_Stream_Segments_1 _⟩
noncomputable def slices_SortStableFunc__Segment_Stream_Segments_1 [Fuel] : T_slices_SortStableFunc__Segment_Stream_Segments_1 := @slices_SortStableFunc__Segment_Stream_Segments_1_ I_slices_SortStableFunc__Segment_Stream_Segments_1
def SS_slices_SortStableFunc__Segment_Stream_Segments_1 (g : T_slices_SortStableFunc__Segment_Stream_Segments_1) : Spec A := fun args => match args with | [.arr 172 a1, .fn 149 []] => fun k => g a1 (fun z0 => k (.tup []) [.arr 172 z0, .fn 149 []]) | _ => fun _ => none
noncomputable def code_148 : Code := (Tryz.f148.body).getD .skip
noncomputable def E_slices_SortStableFunc__Segment_Stream_Segments_1 (g : C_slices_SortStableFunc__Segment_Stream_Segments_1) : Env A := mkE [(198, SS_slices_stableCmpFunc__Segment_Stream_Segments_1 g.slices_stableCmpFunc__Segment_Stream_Segments_1)] [] [] [] [] [] [] [] [(198, 0)] [0, 1]
theorem sm_slices_SortStableFunc__Segment_Stream_Segments_1 (g : C_slices_SortStableFunc__Segment_Stream_Segments_1) : Same (SS_slices_SortStableFunc__Segment_Stream_Segments_1 (@slices_SortStableFunc__Segment_Stream_Segments_1_ g)) (abody (E_slices_SortStableFunc__Segment_Stream_Segments_1 g) Tryz.f148 code_148 1 [0] [] g.N) := by intro args; unfold SS_slices_SortStableFunc__Segment_Stream_Segments_1; split; exact .inr fun R k => (by kernel_rfl); exact .inl fun R k => rfl
theorem ok_slices_SortStableFunc__Segment_Stream_Segments_1 [Fuel] : Ok 148 (SS_slices_SortStableFunc__Segment_Stream_Segments_1 (@slices_SortStableFunc__Segment_Stream_Segments_1 _)) := okF_of std (.cons ok_slices_stableCmpFunc__Segment_Stream_Segments_1 .nil) ⟨rfl, rfl, by kernel_rfl, rfl, rfl⟩ (sm_slices_SortStableFunc__Segment_Stream_Segments_1 I_slices_SortStableFunc__Segment_Stream_Segments_1) (cuts0 (fun _ => rfl) (by kernel_rfl)) Tryz.func148 (by kernel_rfl) (by kernel_rfl)
abbrev T_Stream_Segments : Type 1 := G_Stream → {R : Type} → (List G_Segment → G_Stream → Option R) → Option R
structure C_Stream_Segments where
  N : Nat
  Stream_Flip : T_Stream_Flip
  Stream_Next : T_Stream_Next
  Stream_Pick : T_Stream_Pick
  Stream_Some : T_Stream_Some
  Stream_Odd : T_Stream_Odd
  slices_SortStableFunc__Segment_Stream_Segments_1 : T_slices_SortStableFunc__Segment_Stream_Segments_1
def Stream_Segments_L10 (g : C_Stream_Segments) : Nat → List UInt8 → Int → Int → Int → G_Stream → List (List UInt8) → List G_Segment → List UInt8 → Int → Int → Int → Int → List Int → {R : Type} → (List UInt8 → Int → Int → G_Stream → List (List UInt8) → List G_Segment → List UInt8 → Int → Int → Int → Int → List Int → Option R) → Option R
  | 0, _, _, _, _, _, _, _, _, _, _, _, _, _, _, _ => none
  | n + 1, v90, v91, v92, v93, v94, v95, v96, v97, v98, v99, v100, v101, v102, _, e0 => (bif (decide (v91 ≤ 3)) then (g.Stream_Flip v94 2 (fun r105 r106 => (bif r105 then (bif (decide ((v102.length + [v91].length) * 8 ≤ roomBytes')) then Stream_Segments_L10 g n v90 (w64 (v91 + 1)) v92 v93 r106 v95 v96 v97 v98 v99 v100 v101 (v102 ++ [v91]) e0 else none) else Stream_Segments_L10 g n v90 (w64 (v91 + 1)) v92 v93 r106 v95 v96 v97 v98 v99 v100 v101 v102 e0))) else e0 v90 v92 v93 v94 v95 v96 v97 v98 v99 v100 v101 v102)
def Stream_Segments_L3 (g : C_Stream_Segments) : Nat → Int → Int → G_Stream → List (List UInt8) → List G_Segment → {R : Type} → (G_Stream → List G_Segment → Option R) → Option R
  | 0, _, _, _, _, _, _, _ => none
  | n + 1, v2, v3, v4, v5, v6, _, e0 => (bif (decide (v3 < v2)) then (inr v5 v3 (at_ v5 v3 fun x79 => (g.Stream_Flip v4 5 (fun r80 r81 => (bif r80 then Stream_Segments_L3 g n v2 (w64 (v3 + 1)) r81 v5 v6 e0 else (g.Stream_Pick r81 [0, 100, 150, 200] (fun r82 r83 => (g.Stream_Pick r83 [0, 0, 50] (fun r84 r85 => (g.Stream_Pick r85 [20, 50, 100] (fun r86 r87 => (g.Stream_Pick r87 [50, 1000] (fun r88 r89 => (Stream_Segments_L10 g g.N x79 1 v2 v3 r89 v5 v6 x79 r82 (w64 (r82 + r86)) r84 (w64 (r84 + r88)) [] (fun e107 e108 e109 e110 e111 e112 e113 e114 e115 e116 e117 e118 => (bif ((e118.length : Int) == 0) then (g.Stream_Flip e110 50 (fun r119 r120 => (bif r119 then (g.Stream_Next r120 4 (fun r121 r122 => (bif (r121 == 0) then (g.Stream_Some r122 [e107, [], [65]] (fun r123 r124 => (g.Stream_Odd r124 0 300 (fun r125 r126 => (bif (decide ((e112.length + [(⟨r123, r125, e115, [1], (⟨e116, e117⟩ : G_Window)⟩ : G_Segment)].length) * 72 ≤ roomBytes')) then Stream_Segments_L3 g n e108 (w64 (e109 + 1)) r126 e111 (e112 ++ [(⟨r123, r125, e115, [1], (⟨e116, e117⟩ : G_Window)⟩ : G_Segment)]) e0 else none))))) else (bif (r121 == 1) then (g.Stream_Odd r122 1 30000000000 (fun r127 r128 => (bif (decide ((e112.length + [(⟨e113, e114, r127, [1], (⟨e116, e117⟩ : G_Window)⟩ : G_Segment)].length) * 72 ≤ roomBytes')) then Stream_Segments_L3 g n e108 (w64 (e109 + 1)) r128 e111 (e112 ++ [(⟨e113, e114, r127, [1], (⟨e116, e117⟩ : G_Window)⟩ : G_Segment)]) e0 else none))) else (bif (r121 == 2) then (g.Stream_Pick r122 [0, 1, 3, 4] (fun r129 r130 => (bif (decide (([1].length + [r129].length) * 8 ≤ roomBytes')) then (bif (decide ((e112.length + [(⟨e113, e114, e115, ([1] ++ [r129]), (⟨e116, e117⟩ : G_Window)⟩ : G_Segment)].length) * 72 ≤ roomBytes')) then Stream_Segments_L3 g n e108 (w64 (e109 + 1)) r130 e111 (e112 ++ [(⟨e113, e114, e115, ([1] ++ [r129]), (⟨e116, e117⟩ : G_Window)⟩ : G_Segment)]) e0 else none) else none))) else (g.Stream_Odd r122 0 100 (fun r131 r132 => (g.Stream_Odd r132 1 345686400000 (fun r133 r134 => (bif (decide ((e112.length + [(⟨e113, e114, e115, [1], (⟨r131, r133⟩ : G_Window)⟩ : G_Segment)].length) * 72 ≤ roomBytes')) then Stream_Segments_L3 g n e108 (w64 (e109 + 1)) r134 e111 (e112 ++ [(⟨e113, e114, e115, [1], (⟨r131, r133⟩ : G_Window)⟩ : G_Segment)]) e0 else none)))))))))) else (bif (decide ((e112.length + [(⟨e113, e114, e115, [1], (⟨e116, e117⟩ : G_Window)⟩ : G_Segment)].length) * 72 ≤ roomBytes')) then Stream_Segments_L3 g n e108 (w64 (e109 + 1)) r120 e111 (e112 ++ [(⟨e113, e114, e115, [1], (⟨e116, e117⟩ : G_Window)⟩ : G_Segment)]) e0 else none)))) else (g.Stream_Flip e110 50 (fun r135 r136 => (bif r135 then (g.Stream_Next r136 4 (fun r137 r138 => (bif (r137 == 0) then (g.Stream_Some r138 [e107, [], [65]] (fun r139 r140 => (g.Stream_Odd r140 0 300 (fun r141 r142 => (bif (decide ((e112.length + [(⟨r139, r141, e115, e118, (⟨e116, e117⟩ : G_Window)⟩ : G_Segment)].length) * 72 ≤ roomBytes')) then Stream_Segments_L3 g n e108 (w64 (e109 + 1)) r142 e111 (e112 ++ [(⟨r139, r141, e115, e118, (⟨e116, e117⟩ : G_Window)⟩ : G_Segment)]) e0 else none))))) else (bif (r137 == 1) then (g.Stream_Odd r138 1 30000000000 (fun r143 r144 => (bif (decide ((e112.length + [(⟨e113, e114, r143, e118, (⟨e116, e117⟩ : G_Window)⟩ : G_Segment)].length) * 72 ≤ roomBytes')) then Stream_Segments_L3 g n e108 (w64 (e109 + 1)) r144 e111 (e112 ++ [(⟨e113, e114, r143, e118, (⟨e116, e117⟩ : G_Window)⟩ : G_Segment)]) e0 else none))) else (bif (r137 == 2) then (g.Stream_Pick r138 [0, 1, 3, 4] (fun r145 r146 => (bif (decide ((e118.length + [r145].length) * 8 ≤ roomBytes')) then (bif (decide ((e112.length + [(⟨e113, e114, e115, (e118 ++ [r145]), (⟨e116, e117⟩ : G_Window)⟩ : G_Segment)].length) * 72 ≤ roomBytes')) then Stream_Segments_L3 g n e108 (w64 (e109 + 1)) r146 e111 (e112 ++ [(⟨e113, e114, e115, (e118 ++ [r145]), (⟨e116, e117⟩ : G_Window)⟩ : G_Segment)]) e0 else none) else none))) else (g.Stream_Odd r138 0 100 (fun r147 r148 => (g.Stream_Odd r148 1 345686400000 (fun r149 r150 => (bif (decide ((e112.length + [(⟨e113, e114, e115, e118, (⟨r147, r149⟩ : G_Window)⟩ : G_Segment)].length) * 72 ≤ roomBytes')) then Stream_Segments_L3 g n e108 (w64 (e109 + 1)) r150 e111 (e112 ++ [(⟨e113, e114, e115, e118, (⟨r147, r149⟩ : G_Window)⟩ : G_Segment)]) e0 else none)))))))))) else (bif (decide ((e112.length + [(⟨e113, e114, e115, e118, (⟨e116, e117⟩ : G_Window)⟩ : G_Segment)].length) * 72 ≤ roomBytes')) then Stream_Segments_L3 g n e108 (w64 (e109 + 1)) r136 e111 (e112 ++ [(⟨e113, e114, e115, e118, (⟨e116, e117⟩ : G_Window)⟩ : G_Segment)]) e0 else none)))))))))))))))))))) else e0 v4 v6)
def Stream_Segments_ (g : C_Stream_Segments) (a1 : G_Stream) {R : Type} (k0 : List G_Segment → G_Stream → Option R) : Option R :=
  (Stream_Segments_L3 g g.N ([[102, 117, 108, 108], [102, 117, 108, 108], [102, 117, 108, 108], [115, 109, 97, 108, 108]].length : Int) 0 a1 [[102, 117, 108, 108], [102, 117, 108, 108], [102, 117, 108, 108], [115, 109, 97, 108, 108]] [] (fun e151 e152 => (g.slices_SortStableFunc__Segment_Stream_Segments_1 e152 (fun r153 => k0 r153 e151))))
noncomputable def I_Stream_Segments [Fuel] : C_Stream_Segments := ⟨NN, @Stream_Flip _, @Stream_Next _, @Stream_Pick _, @Stream_Some _, @Stream_Odd _, @slices_SortStableFunc__Segment_Stream_Segments_1 _⟩
noncomputable def Stream_Segments [Fuel] : T_Stream_Segments := @Stream_Segments_ I_Stream_Segments
def SS_Stream_Segments (g : T_Stream_Segments) : Spec A := fun args => match args with | [.box [.d (.sl 3 a1), .d (.int .i64 a2)]] => fun k => g ⟨a1, a2⟩ (fun z0 z1 => k (.arr 172 z0) [.box [.d (.sl 3 z1.f_L), .d (.int .i64 z1.f_at)]]) | _ => fun _ => none
def sh_Stream_Segments_L10 : SSt := mkSh 102 18 [(0, .ptr 0 0), (3, .own 172 2), (5, .str), (6, .ptr 5 0), (7, .int .i64), (8, .own 9 1), (9, .int .i64), (10, .int .i64)] [(0, .box [.sl 3, .int .i64]), (1, .row 9), (2, .row 172), (5, .box [.str, .int .i64, .int .i64, .own 3 8, .int .i64, .int .i64]), (8, .row 3)]
def LP_Stream_Segments_L10 (g : C_Stream_Segments) (n : Nat) : LPT A := fun ps => match ps with | [.d (.str p1), .d (.int .i64 p2), .d (.int .i64 p3), .d (.int .i64 p4), .d (.sl 3 p5), .d (.int .i64 p6), .d (.sl 9 p7), .d (.sl 172 p8), .d (.str p9), .d (.int .i64 p10), .d (.int .i64 p11), .d (.int .i64 p12), .d (.int .i64 p13), .d (.sl 3 p14)] => fun K => Stream_Segments_L10 g n p1 p2 p3 p4 ⟨p5, p6⟩ p7 p8 p9 p10 p11 p12 p13 p14 (fun z0 z1 z2 z3 z4 z5 z6 z7 z8 z9 z10 z11 => K (.exit 2) (mkSt 102 18 [(0, .ptr 0 0), (3, .own 172 2), (5, .d (.str z0)), (6, .ptr 5 0), (8, .own 9 1), (9, .d (.int .i64 z1)), (10, .d (.int .i64 z2))] [(0, some (.box [.d (.sl 3 z3.f_L), .d (.int .i64 z3.f_at)])), (1, some (.row 9 z4)), (2, some (.row 172 z5)), (5, some (.box [.d (.str z6), .d (.int .i64 z7), .d (.int .i64 z8), .own 3 8, .d (.int .i64 z9), .d (.int .i64 z10)])), (8, some (.row 3 z11))])) | _ => fun _ => none
def sh_Stream_Segments_L3 : SSt := mkSh 102 18 [(0, .ptr 0 0), (3, .own 172 2), (8, .own 9 1), (9, .int .i64), (10, .int .i64)] [(0, .box [.sl 3, .int .i64]), (1, .row 9), (2, .row 172)]
def LP_Stream_Segments_L3 (g : C_Stream_Segments) (n : Nat) : LPT A := fun ps => match ps with | [.d (.int .i64 p1), .d (.int .i64 p2), .d (.sl 3 p3), .d (.int .i64 p4), .d (.sl 9 p5), .d (.sl 172 p6)] => fun K => Stream_Segments_L3 g n p1 p2 ⟨p3, p4⟩ p5 p6 (fun z0 z1 => K (.exit 0) (mkSt 102 18 [(0, .ptr 0 0), (3, .own 172 2)] [(0, some (.box [.d (.sl 3 z0.f_L), .d (.int .i64 z0.f_at)])), (2, some (.row 172 z1))])) | _ => fun _ => none
noncomputable def code_52 : Code := (Tryz.f52.body).getD .skip
noncomputable def E_Stream_Segments (g : C_Stream_Segments) : Env A := mkE [(10, SS_Stream_Flip g.Stream_Flip), (12, SS_Stream_Next g.Stream_Next), (26, SS_Stream_Pick g.Stream_Pick), (53, SS_Stream_Some g.Stream_Some), (75, SS_Stream_Odd g.Stream_Odd), (148, SS_slices_SortStableFunc__Segment_Stream_Segments_1 g.slices_SortStableFunc__Segment_Stream_Segments_1)] [(6, [5]), (8, [1]), (18, [3]), (21, [4]), (28, [6]), (36, [7]), (50, [9]), (51, [10]), (57, [11]), (73, [12]), (89, [15]), (91, [16]), (92, [17]), (96, [13]), (97, [14])] [(10, ⟨[0, 3, 5, 6, 7, 8, 9, 10], [], [0, 1, 2, 5], [(5, 3, 3, 8)]⟩), (3, ⟨[0, 3, 8, 9, 10], [(3, 172, 2)], [0, 1], []⟩)] [(10, ⟨[0, 3, 5, 6, 8, 9, 10], [], [0, 1, 2, 5, 8], []⟩), (3, ⟨[0, 3], [], [0, 2], []⟩)] [(10, pieceOf sh_Stream_Segments_L10 (LP_Stream_Segments_L10 g g.N)), (3, pieceOf sh_Stream_Segments_L3 (LP_Stream_Segments_L3 g g.N))] [] [] [] [(148, 0)] [0]
theorem ct_Stream_Segments [Fuel] : NatTab (E_Stream_Segments I_Stream_Segments).C := ct_of (P := Tryz.prog) (T := T) (.cons ok_Stream_Flip (.cons ok_Stream_Next (.cons ok_Stream_Pick (.cons ok_Stream_Some (.cons ok_Stream_Odd (.cons ok_slices_SortStableFunc__Segment_Stream_Segments_1 .nil)))))) (by kernel_rfl)
noncomputable def cb_Stream_Segments_L10 : Code := sub [1, 1, 0, 1, 0, 0, 1, 1, 0, 0, 1, 1, 1, 1, 1, 0, 1, 0, 0] code_52
theorem s_Stream_Segments_L10 (g : C_Stream_Segments) (n : Nat) : StepOk (E_Stream_Segments g) g.N cb_Stream_Segments_L10 sh_Stream_Segments_L10 (LP_Stream_Segments_L10 g) n := by intro ps; unfold LP_Stream_Segments_L10; split; exact .inr fun R K => (by kernel_rfl); exact .inl fun R K => rfl
theorem lf_Stream_Segments_L10 [Fuel] : LoopFine (E_Stream_Segments I_Stream_Segments) NN cb_Stream_Segments_L10 := fine_loop sh_Stream_Segments_L10 (LP_Stream_Segments_L10 I_Stream_Segments) (by kernel_rfl) ct_Stream_Segments (cuts0 (fun _ => rfl) (by kernel_rfl)) (fun ps R K => by unfold LP_Stream_Segments_L10; split <;> (try unfold Stream_Segments_L10) <;> rfl) (s_Stream_Segments_L10 I_Stream_Segments)
noncomputable def cb_Stream_Segments_L3 : Code := sub [1, 1, 0, 1, 0, 0] code_52
theorem s_Stream_Segments_L3 (g : C_Stream_Segments) (n : Nat) : StepOk (E_Stream_Segments g) g.N cb_Stream_Segments_L3 sh_Stream_Segments_L3 (LP_Stream_Segments_L3 g) n := by intro ps; unfold LP_Stream_Segments_L3; split; exact .inr fun R K => (by kernel_rfl); exact .inl fun R K => rfl
theorem lf_Stream_Segments_L3 [Fuel] : LoopFine (E_Stream_Segments I_Stream_Segments) NN cb_Stream_Segments_L3 := fine_loop sh_Stream_Segments_L3 (LP_Stream_Segments_L3 I_Stream_Segments) (by kernel_rfl) ct_Stream_Segments (cutsL (fun _ => rfl) (.cons lf_Stream_Segments_L10 .nil) (by kernel_rfl)) (fun ps R K => by unfold LP_Stream_Segments_L3; split <;> (try unfold Stream_Segments_L3) <;> rfl) (s_Stream_Segments_L3 I_Stream_Segments)
theorem sm_Stream_Segments (g : C_Stream_Segments) : Same (SS_Stream_Segments (@Stream_Segments_ g)) (abody (E_Stream_Segments g) Tryz.f52 code_52 18 [0] [.arr 172] g.N) := by intro args; unfold SS_Stream_Segments; split; exact .inr fun R k => (by kernel_rfl); exact .inl fun R k => rfl
theorem ok_Stream_Segments [Fuel] : Ok 52 (SS_Stream_Segments (@Stream_Segments _)) := okF_of std (.cons ok_Stream_Flip (.cons ok_Stream_Next (.cons ok_Stream_Pick (.cons ok_Stream_Some (.cons ok_Stream_Odd (.cons ok_slices_SortStableFunc__Segment_Stream_Segments_1 .nil)))))) ⟨rfl, rfl, by kernel_rfl, rfl, rfl⟩ (sm_Stream_Segments I_Stream_Segments) (cutsL (fun _ => rfl) (.cons lf_Stream_Segments_L10 (.cons lf_Stream_Segments_L3 .nil)) (by kernel_rfl)) Tryz.func52 (by kernel_rfl) (by kernel_rfl)
abbrev T_Stream_Near : Type 1 := G_Stream → {R : Type} → (Int → G_Stream → Option R) → Option R
structure C_Stream_Near where
  N : Nat
  Stream_Range : T_Stream_Range
  Stream_Flip : T_Stream_Flip
  Stream_Odd : T_Stream_Odd
def Stream_Near_ (g : C_Stream_Near) (a1 : G_Stream) {R : Type} (k0 : Int → G_Stream → Option R) : Option R :=
  (g.Stream_Flip a1 20 (fun r2 r3 => (bif r2 then (g.Stream_Odd r3 0 30000000000 (fun r4 r5 => k0 r4 r5)) else (g.Stream_Range r3 0 330 (fun r6 r7 => k0 r6 r7)))))
noncomputable def I_Stream_Near [Fuel] : C_Stream_Near := ⟨NN, @Stream_Range _, @Stream_Flip _, @Stream_Odd _⟩
noncomputable def Stream_Near [Fuel] : T_Stream_Near := @Stream_Near_ I_Stream_Near
def SS_Stream_Near (g : T_Stream_Near) : Spec A := fun args => match args with | [.box [.d (.sl 3 a1), .d (.int .i64 a2)]] => fun k => g ⟨a1, a2⟩ (fun z0 z1 => k (.d (.int .i64 z0)) [.box [.d (.sl 3 z1.f_L), .d (.int .i64 z1.f_at)]]) | _ => fun _ => none
noncomputable def code_54 : Code := (Tryz.f54.body).getD .skip
noncomputable def E_Stream_Near (g : C_Stream_Near) : Env A := mkE [(8, SS_Stream_Range g.Stream_Range), (10, SS_Stream_Flip g.Stream_Flip), (75, SS_Stream_Odd g.Stream_Odd)] [] [] [] [] [] [] [] [] [0]
theorem sm_Stream_Near (g : C_Stream_Near) : Same (SS_Stream_Near (@Stream_Near_ g)) (abody (E_Stream_Near g) Tryz.f54 code_54 1 [0] [.asis] g.N) := by intro args; unfold SS_Stream_Near; split; exact .inr fun R k => (by kernel_rfl); exact .inl fun R k => rfl
theorem ok_Stream_Near [Fuel] : Ok 54 (SS_Stream_Near (@Stream_Near _)) := okF_of std (.cons ok_Stream_Range (.cons ok_Stream_Flip (.cons ok_Stream_Odd .nil))) ⟨rfl, rfl, by kernel_rfl, rfl, rfl⟩ (sm_Stream_Near I_Stream_Near) (cuts0 (fun _ => rfl) (by kernel_rfl)) Tryz.func54 (by kernel_rfl) (by kernel_rfl)
abbrev T_Stream_Wide : Type 1 := G_Stream → {R : Type} → (Int → G_Stream → Option R) → Option R
structure C_Stream_Wide where
  N : Nat
  Stream_Pick : T_Stream_Pick
def Stream_Wide_ (g : C_Stream_Wide) (a1 : G_Stream) {R : Type} (k0 : Int → G_Stream → Option R) : Option R :=
  (g.Stream_Pick a1 [1, 2, 3, 4, 10, 10, 25, 101, 0, 100000, 100001] (fun r2 r3 => k0 r2 r3))
noncomputable def I_Stream_Wide [Fuel] : C_Stream_Wide := ⟨NN, @Stream_Pick _⟩
noncomputable def Stream_Wide [Fuel] : T_Stream_Wide := @Stream_Wide_ I_Stream_Wide
def SS_Stream_Wide (g : T_Stream_Wide) : Spec A := fun args => match args with | [.box [.d (.sl 3 a1), .d (.int .i64 a2)]] => fun k => g ⟨a1, a2⟩ (fun z0 z1 => k (.d (.int .i64 z0)) [.box [.d (.sl 3 z1.f_L), .d (.int .i64 z1.f_at)]]) | _ => fun _ => none
noncomputable def code_55 : Code := (Tryz.f55.body).getD .skip
noncomputable def E_Stream_Wide (g : C_Stream_Wide) : Env A := mkE [(26, SS_Stream_Pick g.Stream_Pick)] [(4, [1])] [] [] [] [] [] [] [] [0]
theorem sm_Stream_Wide (g : C_Stream_Wide) : Same (SS_Stream_Wide (@Stream_Wide_ g)) (abody (E_Stream_Wide g) Tryz.f55 code_55 2 [0] [.asis] g.N) := by intro args; unfold SS_Stream_Wide; split; exact .inr fun R k => (by kernel_rfl); exact .inl fun R k => rfl
theorem ok_Stream_Wide [Fuel] : Ok 55 (SS_Stream_Wide (@Stream_Wide _)) := okF_of std (.cons ok_Stream_Pick .nil) ⟨rfl, rfl, by kernel_rfl, rfl, rfl⟩ (sm_Stream_Wide I_Stream_Wide) (cuts0 (fun _ => rfl) (by kernel_rfl)) Tryz.func55 (by kernel_rfl) (by kernel_rfl)
abbrev T_strings_IndexByte : Type 1 := List UInt8 → Int → {R : Type} → (Int → Option R) → Option R
def strings_IndexByte [Fuel] : T_strings_IndexByte := @X_ixb
def SS_strings_IndexByte (g : T_strings_IndexByte) : Spec A := SSX_ixb g
theorem ok_strings_IndexByte [Fuel] : Ok 185 (SS_strings_IndexByte (@strings_IndexByte _)) := ⟨ssx_ixb_sound (ixb_sound (Any.strings_IndexByte Tryz.lays137)), ssx_ixb_nat, enters_of (fn := Tryz.f185) Tryz.func185 (by kernel_rfl) (by kernel_rfl)⟩
abbrev T_strings_Trim : Type 1 := List UInt8 → List UInt8 → {R : Type} → (List UInt8 → Option R) → Option R
def strings_Trim [Fuel] : T_strings_Trim := @X_trim
def SS_strings_Trim (g : T_strings_Trim) : Spec A := SSX_trim g
theorem ok_strings_Trim [Fuel] : Ok 186 (SS_strings_Trim (@strings_Trim _)) := ⟨ssx_trim_sound (trim_sound rfl (fun s cs w h1 h2 h3 => Any.strings_Trim_laid Tryz.lays160 (by kernel_rfl) s cs w h1 h2 h3)), ssx_trim_nat, enters_of (fn := Tryz.f186) Tryz.func186 (by kernel_rfl) (by kernel_rfl)⟩
abbrev T_kit_IsKey : Type 1 := List UInt8 → {R : Type} → (Bool → Option R) → Option R
structure C_kit_IsKey where
  N : Nat
  strings_IndexByte : T_strings_IndexByte
  strings_Trim : T_strings_Trim
def kit_IsKey_ (g : C_kit_IsKey) (a1 : List UInt8) {R : Type} (k0 : Bool → Option R) : Option R :=
  (bif (!(a1 == [])) then (bif (decide ((a1.length : Int) ≤ 40)) then (at_ a1 0 fun x2 => (g.strings_IndexByte [97, 98, 99, 100, 101, 102, 103, 104, 105, 106, 107, 108, 109, 110, 111, 112, 113, 114, 115, 116, 117, 118, 119, 120, 121, 122] (x2.toNat : Int) (fun r3 => (bif (decide (r3 ≥ 0)) then (g.strings_Trim a1 [97, 98, 99, 100, 101, 102, 103, 104, 105, 106, 107, 108, 109, 110, 111, 112, 113, 114, 115, 116, 117, 118, 119, 120, 121, 122, 48, 49, 50, 51, 52, 53, 54, 55, 56, 57, 45, 95] (fun r4 => k0 (r4 == []))) else k0 false)))) else k0 false) else k0 false)
noncomputable def I_kit_IsKey [Fuel] : C_kit_IsKey := ⟨NN, @strings_IndexByte _, @strings_Trim _⟩
noncomputable def kit_IsKey [Fuel] : T_kit_IsKey := @kit_IsKey_ I_kit_IsKey
def SS_kit_IsKey (g : T_kit_IsKey) : Spec A := fun args => match args with | [.d (.str a1)] => fun k => g a1 (fun z0 => k (.d (.bool z0)) [.undef]) | _ => fun _ => none
noncomputable def code_130 : Code := (Tryz.f130.body).getD .skip
noncomputable def E_kit_IsKey (g : C_kit_IsKey) : Env A := mkE [(185, SS_strings_IndexByte g.strings_IndexByte), (186, SS_strings_Trim g.strings_Trim)] [] [] [] [] [] [] [] [] []
theorem sm_kit_IsKey (g : C_kit_IsKey) : Same (SS_kit_IsKey (@kit_IsKey_ g)) (abody (E_kit_IsKey g) Tryz.f130 code_130 0 [] [.asis] g.N) := by intro args; unfold SS_kit_IsKey; split; exact .inr fun R k => (by kernel_rfl); exact .inl fun R k => rfl
theorem ok_kit_IsKey [Fuel] : Ok 130 (SS_kit_IsKey (@kit_IsKey _)) := okF_of std (.cons ok_strings_IndexByte (.cons ok_strings_Trim .nil)) ⟨rfl, rfl, by kernel_rfl, rfl, rfl⟩ (sm_kit_IsKey I_kit_IsKey) (cuts0 (fun _ => rfl) (by kernel_rfl)) Tryz.func130 (by kernel_rfl) (by kernel_rfl)
abbrev T_kit_Outside : Type 1 := Int → Int → Int → {R : Type} → (Bool → Option R) → Option R
def kit_Outside_ (g : Nat) (a1 a2 a3 : Int) {R : Type} (k0 : Bool → Option R) : Option R :=
  (bif (decide (a1 < a2)) then k0 true else k0 (decide (a1 > a3)))
noncomputable def kit_Outside [Fuel] : T_kit_Outside := @kit_Outside_ NN
def SS_kit_Outside (g : T_kit_Outside) : Spec A := fun args => match args with | [.d (.int .i64 a1), .d (.int .i64 a2), .d (.int .i64 a3)] => fun k => g a1 a2 a3 (fun z0 => k (.d (.bool z0)) [.undef, .undef, .undef]) | _ => fun _ => none
noncomputable def code_127 : Code := (Tryz.f127.body).getD .skip
noncomputable def E_kit_Outside (g : Nat) : Env A := mkE [] [] [] [] [] [] [] [] [] []
theorem sm_kit_Outside (g : Nat) : Same (SS_kit_Outside (@kit_Outside_ g)) (abody (E_kit_Outside g) Tryz.f127 code_127 0 [] [.asis] g) := by intro args; unfold SS_kit_Outside; split; exact .inr fun R k => (by kernel_rfl); exact .inl fun R k => rfl
theorem ok_kit_Outside [Fuel] : Ok 127 (SS_kit_Outside (@kit_Outside _)) := okF_of std .nil ⟨rfl, rfl, by kernel_rfl, rfl, rfl⟩ (sm_kit_Outside NN) (cuts0 (fun _ => rfl) (by kernel_rfl)) Tryz.func127 (by kernel_rfl) (by kernel_rfl)
abbrev T_kit_IsMode : Type 1 := Int → {R : Type} → (Bool → Option R) → Option R
structure C_kit_IsMode where
  N : Nat
  kit_Outside : T_kit_Outside
def kit_IsMode_ (g : C_kit_IsMode) (a1 : Int) {R : Type} (k0 : Bool → Option R) : Option R :=
  (g.kit_Outside a1 1 3 (fun r2 => k0 (!r2)))
noncomputable def I_kit_IsMode [Fuel] : C_kit_IsMode := ⟨NN, @kit_Outside _⟩
noncomputable def kit_IsMode [Fuel] : T_kit_IsMode := @kit_IsMode_ I_kit_IsMode
def SS_kit_IsMode (g : T_kit_IsMode) : Spec A := fun args => match args with | [.d (.int .i64 a1)] => fun k => g a1 (fun z0 => k (.d (.bool z0)) [.undef]) | _ => fun _ => none
noncomputable def code_128 : Code := (Tryz.f128.body).getD .skip
noncomputable def E_kit_IsMode (g : C_kit_IsMode) : Env A := mkE [(127, SS_kit_Outside g.kit_Outside)] [] [] [] [] [] [] [] [] []
theorem sm_kit_IsMode (g : C_kit_IsMode) : Same (SS_kit_IsMode (@kit_IsMode_ g)) (abody (E_kit_IsMode g) Tryz.f128 code_128 0 [] [.asis] g.N) := by intro args; unfold SS_kit_IsMode; split; exact .inr fun R k => (by kernel_rfl); exact .inl fun R k => rfl
theorem ok_kit_IsMode [Fuel] : Ok 128 (SS_kit_IsMode (@kit_IsMode _)) := okF_of std (.cons ok_kit_Outside .nil) ⟨rfl, rfl, by kernel_rfl, rfl, rfl⟩ (sm_kit_IsMode I_kit_IsMode) (cuts0 (fun _ => rfl) (by kernel_rfl)) Tryz.func128 (by kernel_rfl) (by kernel_rfl)
abbrev T_band_modesFault : Type 1 := List Int → {R : Type} → (Int → Option R) → Option R
structure C_band_modesFault where
  N : Nat
  kit_IsMode : T_kit_IsMode
def band_modesFault_L4 (g : C_band_modesFault) : Nat → List Int → List Int → Int → Int → {R : Type} → (Int → Option R) → Option R → Option R
  | 0, _, _, _, _, _, _, _ => none
  | n + 1, v2, v3, v4, v5, _, e0, e1 => (bif (decide (v5 < v4)) then (get_ v3 v5 fun x9 => (g.kit_IsMode x9 (fun r10 => (bif (!r10) then e0 4 else (bif (decide (v5 > 0)) then (get_ v2 (w64 (v5 - 1)) fun x11 => (bif (decide (x9 ≤ x11)) then e0 7 else band_modesFault_L4 g n v2 v3 v4 (w64 (v5 + 1)) e0 e1)) else band_modesFault_L4 g n v2 v3 v4 (w64 (v5 + 1)) e0 e1))))) else e1)
def band_modesFault_ (g : C_band_modesFault) (a1 : List Int) {R : Type} (k0 : Int → Option R) : Option R :=
  (bif ((a1.length : Int) == 0) then k0 8 else (band_modesFault_L4 g g.N a1 a1 (a1.length : Int) 0 (fun e12 => k0 e12) (k0 0)))
noncomputable def I_band_modesFault [Fuel] : C_band_modesFault := ⟨NN, @kit_IsMode _⟩
noncomputable def band_modesFault [Fuel] : T_band_modesFault := @band_modesFault_ I_band_modesFault
def SS_band_modesFault (g : T_band_modesFault) : Spec A := fun args => match args with | [.d (.sl 3 a1)] => fun k => g a1 (fun z0 => k (.d (.int .i64 z0)) [.undef]) | _ => fun _ => none
def sh_band_modesFault_L4 : SSt := mkSh 30 0 [(0, .sl 3), (8, .sl 3), (9, .int .i64), (10, .int .i64)] []
def LP_band_modesFault_L4 (g : C_band_modesFault) (n : Nat) : LPT A := fun ps => match ps with | [.d (.sl 3 p1), .d (.sl 3 p2), .d (.int .i64 p3), .d (.int .i64 p4)] => fun K => band_modesFault_L4 g n p1 p2 p3 p4 (fun z0 => K .ret (mkSt 30 0 [(2, .d (.int .i64 z0))] [])) (K (.exit 0) (mkSt 30 0 [] [])) | _ => fun _ => none
noncomputable def code_160 : Code := (Tryz.f160.body).getD .skip
noncomputable def E_band_modesFault (g : C_band_modesFault) : Env A := mkE [(128, SS_kit_IsMode g.kit_IsMode)] [] [(4, ⟨[0, 8, 9, 10], [], [], []⟩)] [(4, ⟨[2], [], [], []⟩)] [(4, pieceOf sh_band_modesFault_L4 (LP_band_modesFault_L4 g g.N))] [] [] [] [] []
theorem ct_band_modesFault [Fuel] : NatTab (E_band_modesFault I_band_modesFault).C := ct_of (P := Tryz.prog) (T := T) (.cons ok_kit_IsMode .nil) (by kernel_rfl)
noncomputable def cb_band_modesFault_L4 : Code := sub [1, 1, 0, 1, 0, 0] code_160
theorem s_band_modesFault_L4 (g : C_band_modesFault) (n : Nat) : StepOk (E_band_modesFault g) g.N cb_band_modesFault_L4 sh_band_modesFault_L4 (LP_band_modesFault_L4 g) n := by intro ps; unfold LP_band_modesFault_L4; split; exact .inr fun R K => (by kernel_rfl); exact .inl fun R K => rfl
theorem lf_band_modesFault_L4 [Fuel] : LoopFine (E_band_modesFault I_band_modesFault) NN cb_band_modesFault_L4 := fine_loop sh_band_modesFault_L4 (LP_band_modesFault_L4 I_band_modesFault) (by kernel_rfl) ct_band_modesFault (cuts0 (fun _ => rfl) (by kernel_rfl)) (fun ps R K => by unfold LP_band_modesFault_L4; split <;> (try unfold band_modesFault_L4) <;> rfl) (s_band_modesFault_L4 I_band_modesFault)
theorem sm_band_modesFault (g : C_band_modesFault) : Same (SS_band_modesFault (@band_modesFault_ g)) (abody (E_band_modesFault g) Tryz.f160 code_160 0 [] [.asis] g.N) := by intro args; unfold SS_band_modesFault; split; exact .inr fun R k => (by kernel_rfl); exact .inl fun R k => rfl
theorem ok_band_modesFault [Fuel] : Ok 160 (SS_band_modesFault (@band_modesFault _)) := okF_of std (.cons ok_kit_IsMode .nil) ⟨rfl, rfl, by kernel_rfl, rfl, rfl⟩ (sm_band_modesFault I_band_modesFault) (cutsL (fun _ => rfl) (.cons lf_band_modesFault_L4 .nil) (by kernel_rfl)) Tryz.func160 (by kernel_rfl) (by kernel_rfl)
abbrev T_kit_IsTime : Type 1 := G_Window → {R : Type} → (Bool → Option R) → Option R
def kit_IsTime_ (g : Nat) (a1 : G_Window) {R : Type} (k0 : Bool → Option R) : Option R :=
  (bif (decide (a1.f_From ≥ 0)) then (bif (decide (a1.f_From < a1.f_To)) then k0 (decide (a1.f_To ≤ 345686400000)) else k0 false) else k0 false)
noncomputable def kit_IsTime [Fuel] : T_kit_IsTime := @kit_IsTime_ NN
def SS_kit_IsTime (g : T_kit_IsTime) : Spec A := fun args => match args with | [.agg [.d (.int .i64 a1), .d (.int .i64 a2)]] => fun k => g ⟨a1, a2⟩ (fun z0 => k (.d (.bool z0)) [.undef]) | _ => fun _ => none
noncomputable def code_161 : Code := (Tryz.f161.body).getD .skip
noncomputable def E_kit_IsTime (g : Nat) : Env A := mkE [] [(1, [0])] [] [] [] [] [] [] [] []
theorem sm_kit_IsTime (g : Nat) : Same (SS_kit_IsTime (@kit_IsTime_ g)) (abody (E_kit_IsTime g) Tryz.f161 code_161 1 [] [.asis] g) := by intro args; unfold SS_kit_IsTime; split; exact .inr fun R k => (by kernel_rfl); exact .inl fun R k => rfl
theorem ok_kit_IsTime [Fuel] : Ok 161 (SS_kit_IsTime (@kit_IsTime _)) := okF_of std .nil ⟨rfl, rfl, by kernel_rfl, rfl, rfl⟩ (sm_kit_IsTime NN) (cuts0 (fun _ => rfl) (by kernel_rfl)) Tryz.func161 (by kernel_rfl) (by kernel_rfl)
abbrev T_strings_Compare : Type 1 := List UInt8 → List UInt8 → {R : Type} → (Int → Option R) → Option R
def strings_Compare [Fuel] : T_strings_Compare := @X_cmp
def SS_strings_Compare (g : T_strings_Compare) : Spec A := SSX_cmp g
theorem ok_strings_Compare [Fuel] : Ok 114 (SS_strings_Compare (@strings_Compare _)) := ⟨ssx_cmp_sound (cmp_sound (Any.strings_Compare Tryz.lays106)), ssx_cmp_nat, enters_of (fn := Tryz.f114) Tryz.func114 (by kernel_rfl) (by kernel_rfl)⟩
abbrev T_cmp_Or__int : Type 1 := List Int → {R : Type} → (Int → Option R) → Option R
def cmp_Or__int_L3 (g : Nat) : Nat → Int → List Int → Int → Int → {R : Type} → (Int → Int → Option R) → (Int → Option R) → Option R
  | 0, _, _, _, _, _, _, _ => none
  | n + 1, v2, v3, v4, v5, _, e0, e1 => (bif (decide (v5 < v4)) then (get_ v3 v5 fun x7 => (bif (x7 != v2) then e0 x7 v2 else cmp_Or__int_L3 g n v2 v3 v4 (w64 (v5 + 1)) e0 e1)) else e1 v2)
def cmp_Or__int_ (g : Nat) (a1 : List Int) {R : Type} (k0 : Int → Option R) : Option R :=
  (cmp_Or__int_L3 g g 0 a1 (a1.length : Int) 0 (fun e8 e9 => k0 e8) (fun e10 => k0 e10))
noncomputable def cmp_Or__int [Fuel] : T_cmp_Or__int := @cmp_Or__int_ NN
def SS_cmp_Or__int (g : T_cmp_Or__int) : Spec A := fun args => match args with | [.d (.sl 3 a1)] => fun k => g a1 (fun z0 => k (.d (.int .i64 z0)) [.undef]) | _ => fun _ => none
def sh_cmp_Or__int_L3 : SSt := mkSh 18 0 [(3, .int .i64), (6, .sl 3), (7, .int .i64), (8, .int .i64)] []
def LP_cmp_Or__int_L3 (g : Nat) (n : Nat) : LPT A := fun ps => match ps with | [.d (.int .i64 p1), .d (.sl 3 p2), .d (.int .i64 p3), .d (.int .i64 p4)] => fun K => cmp_Or__int_L3 g n p1 p2 p3 p4 (fun z0 z1 => K .ret (mkSt 18 0 [(2, .d (.int .i64 z0)), (3, .d (.int .i64 z1))] [])) (fun z0 => K (.exit 0) (mkSt 18 0 [(3, .d (.int .i64 z0))] [])) | _ => fun _ => none
noncomputable def code_113 : Code := (Tryz.f113.body).getD .skip
noncomputable def E_cmp_Or__int (g : Nat) : Env A := mkE [] [] [(3, ⟨[3, 6, 7, 8], [], [], []⟩)] [(3, ⟨[2, 3], [], [], []⟩)] [(3, pieceOf sh_cmp_Or__int_L3 (LP_cmp_Or__int_L3 g g))] [] [] [] [] []
theorem ct_cmp_Or__int [Fuel] : NatTab (E_cmp_Or__int NN).C := ct_of (P := Tryz.prog) (T := T) .nil (by kernel_rfl)
noncomputable def cb_cmp_Or__int_L3 : Code := sub [1, 1, 0, 1, 0, 0] code_113
theorem s_cmp_Or__int_L3 (g : Nat) (n : Nat) : StepOk (E_cmp_Or__int g) g cb_cmp_Or__int_L3 sh_cmp_Or__int_L3 (LP_cmp_Or__int_L3 g) n := by intro ps; unfold LP_cmp_Or__int_L3; split; exact .inr fun R K => (by kernel_rfl); exact .inl fun R K => rfl
theorem lf_cmp_Or__int_L3 [Fuel] : LoopFine (E_cmp_Or__int NN) NN cb_cmp_Or__int_L3 := fine_loop sh_cmp_Or__int_L3 (LP_cmp_Or__int_L3 NN) (by kernel_rfl) ct_cmp_Or__int (cuts0 (fun _ => rfl) (by kernel_rfl)) (fun ps R K => by unfold LP_cmp_Or__int_L3; split <;> (try unfold cmp_Or__int_L3) <;> rfl) (s_cmp_Or__int_L3 NN)
theorem sm_cmp_Or__int (g : Nat) : Same (SS_cmp_Or__int (@cmp_Or__int_ g)) (abody (E_cmp_Or__int g) Tryz.f113 code_113 0 [] [.asis] g) := by intro args; unfold SS_cmp_Or__int; split; exact .inr fun R k => (by kernel_rfl); exact .inl fun R k => rfl
theorem ok_cmp_Or__int [Fuel] : Ok 113 (SS_cmp_Or__int (@cmp_Or__int _)) := okF_of std .nil ⟨rfl, rfl, by kernel_rfl, rfl, rfl⟩ (sm_cmp_Or__int NN) (cutsL (fun _ => rfl) (.cons lf_cmp_Or__int_L3 .nil) (by kernel_rfl)) Tryz.func113 (by kernel_rfl) (by kernel_rfl)
abbrev T_band_compareSegments : Type 1 := G_Segment → G_Segment → {R : Type} → (Int → Option R) → Option R
structure C_band_compareSegments where
  N : Nat
  cmp_Or__int : T_cmp_Or__int
  strings_Compare : T_strings_Compare
  cmp_Compare__int : T_cmp_Compare__int
def band_compareSegments_ (g : C_band_compareSegments) (a1 a2 : G_Segment) {R : Type} (k0 : Int → Option R) : Option R :=
  (g.strings_Compare a1.f_Class a2.f_Class (fun r3 => (g.cmp_Compare__int a1.f_Low a2.f_Low (fun r4 => (g.cmp_Compare__int a1.f_High a2.f_High (fun r5 => (g.cmp_Compare__int a1.f_Time.f_From a2.f_Time.f_From (fun r6 => (g.cmp_Or__int [r3, r4, r5, r6] (fun r7 => k0 r7))))))))))
noncomputable def I_band_compareSegments [Fuel] : C_band_compareSegments := ⟨NN, @cmp_Or__int _, @strings_Compare _, @cmp_Compare__int _⟩
noncomputable def band_compareSegments [Fuel] : T_band_compareSegments := @band_compareSegments_ I_band_compareSegments
def SS_band_compareSegments (g : T_band_compareSegments) : Spec A := fun args => match args with | [.agg [.d (.str a1), .d (.int .i64 a2), .d (.int .i64 a3), .d (.sl 3 a4), .d (.int .i64 a5), .d (.int .i64 a6)], .agg [.d (.str a7), .d (.int .i64 a8), .d (.int .i64 a9), .d (.sl 3 a10), .d (.int .i64 a11), .d (.int .i64 a12)]] => fun k => g ⟨a1, a2, a3, a4, ⟨a5, a6⟩⟩ ⟨a7, a8, a9, a10, ⟨a11, a12⟩⟩ (fun z0 => k (.d (.int .i64 z0)) [.undef, .undef]) | _ => fun _ => none
noncomputable def code_162 : Code := (Tryz.f162.body).getD .skip
noncomputable def E_band_compareSegments (g : C_band_compareSegments) : Env A := mkE [(113, SS_cmp_Or__int g.cmp_Or__int), (114, SS_strings_Compare g.strings_Compare), (170, SS_cmp_Compare__int g.cmp_Compare__int)] [(2, [0]), (3, [1]), (27, [2])] [] [] [] [] [] [] [] []
theorem sm_band_compareSegments (g : C_band_compareSegments) : Same (SS_band_compareSegments (@band_compareSegments_ g)) (abody (E_band_compareSegments g) Tryz.f162 code_162 3 [] [.asis] g.N) := by intro args; unfold SS_band_compareSegments; split; exact .inr fun R k => (by kernel_rfl); exact .inl fun R k => rfl
theorem ok_band_compareSegments [Fuel] : Ok 162 (SS_band_compareSegments (@band_compareSegments _)) := okF_of std (.cons ok_cmp_Or__int (.cons ok_strings_Compare (.cons ok_cmp_Compare__int .nil))) ⟨rfl, rfl, by kernel_rfl, rfl, rfl⟩ (sm_band_compareSegments I_band_compareSegments) (cuts0 (fun _ => rfl) (by kernel_rfl)) Tryz.func162 (by kernel_rfl) (by kernel_rfl)
abbrev T_band_CheckSegments : Type 1 := List G_Segment → {R : Type} → (Int → Option R) → Option R
structure C_band_CheckSegments where
  N : Nat
  kit_IsKey : T_kit_IsKey
  band_modesFault : T_band_modesFault
  kit_IsTime : T_kit_IsTime
  band_compareSegments : T_band_compareSegments
def band_CheckSegments_L4 (g : C_band_CheckSegments) : Nat → List G_Segment → List G_Segment → Int → Int → {R : Type} → (Int → Option R) → Option R → Option R
  | 0, _, _, _, _, _, _, _ => none
  | n + 1, v2, v3, v4, v5, _, e0, e1 => (bif (decide (v5 < v4)) then (get_ v3 v5 fun x12 => (g.kit_IsKey x12.f_Class (fun r13 => (bif (!r13) then e0 5 else (bif (decide (x12.f_Low < 0)) then e0 1 else (bif (decide (x12.f_Low ≥ x12.f_High)) then e0 1 else (bif (decide (x12.f_High > 30000000000)) then e0 1 else (g.band_modesFault x12.f_Modes (fun r14 => (bif (r14 != 0) then e0 r14 else (g.kit_IsTime x12.f_Time (fun r15 => (bif (!r15) then e0 1 else (bif (decide (v5 > 0)) then (get_ v2 (w64 (v5 - 1)) fun x16 => (g.band_compareSegments x16 x12 (fun r17 => (bif (decide (r17 ≥ 0)) then e0 7 else band_CheckSegments_L4 g n v2 v3 v4 (w64 (v5 + 1)) e0 e1)))) else band_CheckSegments_L4 g n v2 v3 v4 (w64 (v5 + 1)) e0 e1)))))))))))))) else e1)
def band_CheckSegments_ (g : C_band_CheckSegments) (a1 : List G_Segment) {R : Type} (k0 : Int → Option R) : Option R :=
  (bif (decide ((a1.length : Int) > 500)) then k0 2 else (band_CheckSegments_L4 g g.N a1 a1 (a1.length : Int) 0 (fun e18 => k0 e18) (k0 0)))
noncomputable def I_band_CheckSegments [Fuel] : C_band_CheckSegments := ⟨NN, @kit_IsKey _, @band_modesFault _, @kit_IsTime _, @band_compareSegments _⟩
noncomputable def band_CheckSegments [Fuel] : T_band_CheckSegments := @band_CheckSegments_ I_band_CheckSegments
def SS_band_CheckSegments (g : T_band_CheckSegments) : Spec A := fun args => match args with | [.d (.sl 172 a1)] => fun k => g a1 (fun z0 => k (.d (.int .i64 z0)) [.undef]) | _ => fun _ => none
def sh_band_CheckSegments_L4 : SSt := mkSh 58 1 [(0, .sl 172), (9, .sl 172), (10, .int .i64), (11, .int .i64)] []
def LP_band_CheckSegments_L4 (g : C_band_CheckSegments) (n : Nat) : LPT A := fun ps => match ps with | [.d (.sl 172 p1), .d (.sl 172 p2), .d (.int .i64 p3), .d (.int .i64 p4)] => fun K => band_CheckSegments_L4 g n p1 p2 p3 p4 (fun z0 => K .ret (mkSt 58 1 [(2, .d (.int .i64 z0))] [])) (K (.exit 0) (mkSt 58 1 [] [])) | _ => fun _ => none
noncomputable def code_66 : Code := (Tryz.f66.body).getD .skip
noncomputable def E_band_CheckSegments (g : C_band_CheckSegments) : Env A := mkE [(130, SS_kit_IsKey g.kit_IsKey), (160, SS_band_modesFault g.band_modesFault), (161, SS_kit_IsTime g.kit_IsTime), (162, SS_band_compareSegments g.band_compareSegments)] [(4, [0])] [(4, ⟨[0, 9, 10, 11], [], [], []⟩)] [(4, ⟨[2], [], [], []⟩)] [(4, pieceOf sh_band_CheckSegments_L4 (LP_band_CheckSegments_L4 g g.N))] [] [] [] [] []
theorem ct_band_CheckSegments [Fuel] : NatTab (E_band_CheckSegments I_band_CheckSegments).C := ct_of (P := Tryz.prog) (T := T) (.cons ok_kit_IsKey (.cons ok_band_modesFault (.cons ok_kit_IsTime (.cons ok_band_compareSegments .nil)))) (by kernel_rfl)
noncomputable def cb_band_CheckSegments_L4 : Code := sub [1, 1, 0, 1, 0, 0] code_66
theorem s_band_CheckSegments_L4 (g : C_band_CheckSegments) (n : Nat) : StepOk (E_band_CheckSegments g) g.N cb_band_CheckSegments_L4 sh_band_CheckSegments_L4 (LP_band_CheckSegments_L4 g) n := by intro ps; unfold LP_band_CheckSegments_L4; split; exact .inr fun R K => (by kernel_rfl); exact .inl fun R K => rfl
theorem lf_band_CheckSegments_L4 [Fuel] : LoopFine (E_band_CheckSegments I_band_CheckSegments) NN cb_band_CheckSegments_L4 := fine_loop sh_band_CheckSegments_L4 (LP_band_CheckSegments_L4 I_band_CheckSegments) (by kernel_rfl) ct_band_CheckSegments (cuts0 (fun _ => rfl) (by kernel_rfl)) (fun ps R K => by unfold LP_band_CheckSegments_L4; split <;> (try unfold band_CheckSegments_L4) <;> rfl) (s_band_CheckSegments_L4 I_band_CheckSegments)
theorem sm_band_CheckSegments (g : C_band_CheckSegments) : Same (SS_band_CheckSegments (@band_CheckSegments_ g)) (abody (E_band_CheckSegments g) Tryz.f66 code_66 1 [] [.asis] g.N) := by intro args; unfold SS_band_CheckSegments; split; exact .inr fun R k => (by kernel_rfl); exact .inl fun R k => rfl
theorem ok_band_CheckSegments [Fuel] : Ok 66 (SS_band_CheckSegments (@band_CheckSegments _)) := okF_of std (.cons ok_kit_IsKey (.cons ok_band_modesFault (.cons ok_kit_IsTime (.cons ok_band_compareSegments .nil)))) ⟨rfl, rfl, by kernel_rfl, rfl, rfl⟩ (sm_band_CheckSegments I_band_CheckSegments) (cutsL (fun _ => rfl) (.cons lf_band_CheckSegments_L4 .nil) (by kernel_rfl)) Tryz.func66 (by kernel_rfl) (by kernel_rfl)
abbrev T_kit_IsMoment : Type 1 := Int → {R : Type} → (Bool → Option R) → Option R
structure C_kit_IsMoment where
  N : Nat
  kit_Outside : T_kit_Outside
def kit_IsMoment_ (g : C_kit_IsMoment) (a1 : Int) {R : Type} (k0 : Bool → Option R) : Option R :=
  (g.kit_Outside a1 0 345686399999 (fun r2 => k0 (!r2)))
noncomputable def I_kit_IsMoment [Fuel] : C_kit_IsMoment := ⟨NN, @kit_Outside _⟩
noncomputable def kit_IsMoment [Fuel] : T_kit_IsMoment := @kit_IsMoment_ I_kit_IsMoment
def SS_kit_IsMoment (g : T_kit_IsMoment) : Spec A := fun args => match args with | [.d (.int .i64 a1)] => fun k => g a1 (fun z0 => k (.d (.bool z0)) [.undef]) | _ => fun _ => none
noncomputable def code_126 : Code := (Tryz.f126.body).getD .skip
noncomputable def E_kit_IsMoment (g : C_kit_IsMoment) : Env A := mkE [(127, SS_kit_Outside g.kit_Outside)] [] [] [] [] [] [] [] [] []
theorem sm_kit_IsMoment (g : C_kit_IsMoment) : Same (SS_kit_IsMoment (@kit_IsMoment_ g)) (abody (E_kit_IsMoment g) Tryz.f126 code_126 0 [] [.asis] g.N) := by intro args; unfold SS_kit_IsMoment; split; exact .inr fun R k => (by kernel_rfl); exact .inl fun R k => rfl
theorem ok_kit_IsMoment [Fuel] : Ok 126 (SS_kit_IsMoment (@kit_IsMoment _)) := okF_of std (.cons ok_kit_Outside .nil) ⟨rfl, rfl, by kernel_rfl, rfl, rfl⟩ (sm_kit_IsMoment I_kit_IsMoment) (cuts0 (fun _ => rfl) (by kernel_rfl)) Tryz.func126 (by kernel_rfl) (by kernel_rfl)
abbrev T_band_used : Type 1 := Int → Int → {R : Type} → (G_Row → Option R) → Option R
def band_used_ (g : Nat) (a1 a2 : Int) {R : Type} (k0 : G_Row → Option R) : Option R :=
  k0 (⟨(w64 (a1 - (w64 (Int.tdiv a2 2)))), (w64 ((w64 (a1 - (w64 (Int.tdiv a2 2)))) + a2))⟩ : G_Row)
noncomputable def band_used [Fuel] : T_band_used := @band_used_ NN
def SS_band_used (g : T_band_used) : Spec A := fun args => match args with | [.d (.int .i64 a1), .d (.int .i64 a2)] => fun k => g a1 a2 (fun z0 => k (.agg [.d (.int .i64 z0.f_From), .d (.int .i64 z0.f_To)]) [.undef, .undef]) | _ => fun _ => none
noncomputable def code_151 : Code := (Tryz.f151.body).getD .skip
noncomputable def E_band_used (g : Nat) : Env A := mkE [] [(4, [0])] [] [] [] [] [] [] [] []
theorem sm_band_used (g : Nat) : Same (SS_band_used (@band_used_ g)) (abody (E_band_used g) Tryz.f151 code_151 1 [] [.asis] g) := by intro args; unfold SS_band_used; split; exact .inr fun R k => (by kernel_rfl); exact .inl fun R k => rfl
theorem ok_band_used [Fuel] : Ok 151 (SS_band_used (@band_used _)) := okF_of std .nil ⟨rfl, rfl, by kernel_rfl, rfl, rfl⟩ (sm_band_used NN) (cuts0 (fun _ => rfl) (by kernel_rfl)) Tryz.func151 (by kernel_rfl) (by kernel_rfl)
abbrev T_kit_Has : Type 1 := G_Window → Int → {R : Type} → (Bool → Option R) → Option R
def kit_Has_ (g : Nat) (a1 : G_Window) (a2 : Int) {R : Type} (k0 : Bool → Option R) : Option R :=
  (bif (decide (a1.f_From ≤ a2)) then k0 (decide (a2 < a1.f_To)) else k0 false)
noncomputable def kit_Has [Fuel] : T_kit_Has := @kit_Has_ NN
def SS_kit_Has (g : T_kit_Has) : Spec A := fun args => match args with | [.agg [.d (.int .i64 a1), .d (.int .i64 a2)], .d (.int .i64 a3)] => fun k => g ⟨a1, a2⟩ a3 (fun z0 => k (.d (.bool z0)) [.undef, .undef]) | _ => fun _ => none
noncomputable def code_201 : Code := (Tryz.f201.body).getD .skip
noncomputable def E_kit_Has (g : Nat) : Env A := mkE [] [(2, [0])] [] [] [] [] [] [] [] []
theorem sm_kit_Has (g : Nat) : Same (SS_kit_Has (@kit_Has_ g)) (abody (E_kit_Has g) Tryz.f201 code_201 1 [] [.asis] g) := by intro args; unfold SS_kit_Has; split; exact .inr fun R k => (by kernel_rfl); exact .inl fun R k => rfl
theorem ok_kit_Has [Fuel] : Ok 201 (SS_kit_Has (@kit_Has _)) := okF_of std .nil ⟨rfl, rfl, by kernel_rfl, rfl, rfl⟩ (sm_kit_Has NN) (cuts0 (fun _ => rfl) (by kernel_rfl)) Tryz.func201 (by kernel_rfl) (by kernel_rfl)
end Go.Am
