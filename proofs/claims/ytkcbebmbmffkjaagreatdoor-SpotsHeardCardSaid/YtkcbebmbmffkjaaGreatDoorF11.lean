/- The functions of the program as Lean functions, each shown to be what the code computes, part 11. No condition: lemmas for the claim. -/
import Derived.Test.YtkcbebmbmffkjaaGreatDoorF0
import Derived.Test.YtkcbebmbmffkjaaGreatDoorFSh
import Derived.Test.YtkcbebmbmffkjaaGreatDoorF1
import Derived.Test.YtkcbebmbmffkjaaGreatDoorF2
import Derived.Test.YtkcbebmbmffkjaaGreatDoorF4
import Derived.Test.YtkcbebmbmffkjaaGreatDoorF5
import Derived.Test.YtkcbebmbmffkjaaGreatDoorF6
import Derived.Test.YtkcbebmbmffkjaaGreatDoorF7
import Derived.Test.YtkcbebmbmffkjaaGreatDoorF8
import Derived.Test.YtkcbebmbmffkjaaGreatDoorF9
import Derived.Test.YtkcbebmbmffkjaaGreatDoorF10
set_option linter.unusedVariables false
set_option maxRecDepth 100000
namespace Go.Am
open Go Go.Proofs
abbrev T_z48z : Type 1 := List G_Pair → {R : Type} → (Bool → Option R) → Option R
def z48z_L4 (g : Nat) : Nat → List G_Pair → Int → Int → {R : Type} → Option R → Option R
 | 0, _, _, _, _, _ => none
 | n + 1, v2, v3, v4, _, e0 => (bif (decide (v4 < v3)) then (get_ v2 v4 fun x6 => none) else e0)
def z48z_ (g : Nat) (a1 : List G_Pair) {R : Type} (k0 : Bool → Option R) : Option R :=
 (bif ((a1.length : Int) != 0) then k0 false else (z48z_L4 g g a1 (a1.length : Int) 0 (k0 true)))
noncomputable def z48z [Fuel] : T_z48z := @z48z_ NN
def SS_z48z (g : T_z48z) : Spec A := fun args => match args with | [.d (.sl 65 a1), .d .nsl] => fun k => g a1 (fun z0 => k (.d (.bool z0)) [.undef, .undef]) | _ => fun _ => none
def sh_z48z_L4 : SSt := mkSh 26 0 [(0, .sl 65), (1, .nsl), (12, .int .i64), (13, .int .i64)] []
def LP_z48z_L4 (g : Nat) (n : Nat) : LPT A := fun ps => match ps with | [.d (.sl 65 p1), .d (.int .i64 p2), .d (.int .i64 p3)] => fun K => z48z_L4 g n p1 p2 p3 (K (.exit 0) (mkSt 26 0 [] [])) | _ => fun _ => none
noncomputable def E_z48z (g : Nat) : Env A := mkE [] [] [(4, ⟨[0, 1, 12, 13], [], [], [], [], [], []⟩)] [(4, ⟨[], [], [], [], [], [], []⟩)] [(4, pieceOf sh_z48z_L4 (LP_z48z_L4 g g))] [] [] [] [] []
theorem ct_z48z [Fuel] : NatTab (E_z48z NN).C := ct_of (P := Tryz.prog) (T := T) .nil (by kernel_rfl)
noncomputable def cb_z48z_L4 : Code := sub [1, 1, 0, 1, 0, 0] code_32
theorem s_z48z_L4 (g : Nat) (n : Nat) : StepOk (E_z48z g) g cb_z48z_L4 sh_z48z_L4 (LP_z48z_L4 g) n := by intro ps; unfold LP_z48z_L4; split; exact .inr fun R K => (by kernel_rfl); exact .inl fun R K => rfl
theorem lf_z48z_L4 [Fuel] : LoopFine (E_z48z NN) NN cb_z48z_L4 := fine_loop sh_z48z_L4 (LP_z48z_L4 NN) (by kernel_rfl) ct_z48z (cuts0 (fun _ => rfl) (by kernel_rfl)) (fun ps R K => by unfold LP_z48z_L4; split <;> (try unfold z48z_L4) <;> rfl) (s_z48z_L4 NN)
theorem sm_z48z (g : Nat) : Same (SS_z48z (@z48z_ g)) (abody (E_z48z g) Tryz.f32 code_32 0 [] [.asis] g) := by intro args; unfold SS_z48z; split; exact .inr fun R k => (by kernel_rfl); exact .inl fun R k => rfl
theorem ok_z48z [Fuel] : Ok 32 (SS_z48z (@z48z _)) := okF_of std .nil ⟨rfl, rfl, by kernel_rfl, rfl, rfl, rfl⟩ (sm_z48z NN) (cutsL (fun _ => rfl) (.cons lf_z48z_L4 .nil) (by kernel_rfl)) Tryz.func32 (by kernel_rfl) (by kernel_rfl)
abbrev T_law_SpotsHeard : Type 1 := List Int → {R : Type} → (Bool → Option R) → Option R
structure C_law_SpotsHeard where
 N : Nat
 z82z : T_z82z
 z50z : T_z50z
 z77z : T_z77z
 z68z : T_z68z
 law_errs : T_law_errs
 z34z : T_z34z
 z51z : T_z51z
 z88z : T_z88z
 z20z : T_z20z
 z45z : T_z45z
 law_banded : T_law_banded
 band_Merge : T_band_Merge
 band_Heard : T_band_Heard
 z3z : T_z3z
 Q_SpotsOf : T_Q_SpotsOf
 z0z : T_z0z
 z9z : T_z9z
 z31z : T_z31z
 z24z : T_z24z
 z48z : T_z48z
def law_SpotsHeard_ (g : C_law_SpotsHeard) (a1 : List Int) {R : Type} (k0 : Bool → Option R) : Option R :=
 (g.z82z (⟨a1, 0⟩ : G_Stream) (fun r2 r3 => (g.z77z r3 0 12 (fun r4 r5 => (g.z50z r5 r4 (fun r6 r7 => (g.z77z r7 0 6 (fun r8 r9 => (g.z50z r9 r8 (fun r10 r11 => (g.z68z r11 [1, 5, 30, 1000, 0, 86400001] (fun r12 r13 => (g.z68z r13 [0, 10, 30, 60, 100, (-1)] (fun r14 r15 => (g.band_Merge r6 r10 (fun r16 r17 => (g.band_Heard r2 r6 r12 r14 (fun r18 r19 => (g.z3z r2 r6 r12 r14 (fun r20 r21 => (g.z51z r6 (fun r22 => (g.z51z r10 (fun r23 => (g.law_errs [r22, r23] (fun r24 => (g.z34z r2 (fun r25 => (g.z51z r6 (fun r26 => (g.z88z r12 r14 (fun r27 => (g.law_errs [r25, r26, r27] (fun r28 => (bif (r24 == 0) then (g.Q_SpotsOf r6 r10 (fun r29 r30 => (bif (r28 == 0) then (g.z0z r2 r6 r12 r14 (fun r31 => (g.z9z r2 r6 r12 r14 (fun r32 => (g.z31z r6 (fun r33 => (g.z51z r6 (fun r34 => (bif (r33 == r34) then (bif (r17 == r30) then (g.z20z r16 r29 (fun r35 => (bif r35 then (bif (r19 == r28) then (g.z20z r18 r31 (fun r36 => (bif r36 then (bif (r21 == r28) then (g.z24z r20 r32 (fun r37 => (bif r37 then (g.law_banded (fun r38 => k0 r38)) else k0 false))) else k0 false) else k0 false))) else k0 false) else k0 false))) else k0 false) else k0 false))))))))) else (g.z31z r6 (fun r39 => (g.z51z r6 (fun r40 => (bif (r39 == r40) then (bif (r17 == r30) then (g.z20z r16 r29 (fun r41 => (bif r41 then (bif (r19 == r28) then (g.z45z r18 (fun r42 => (bif r42 then (bif (r21 == r28) then (g.z48z r20 (fun r43 => (bif r43 then (g.law_banded (fun r44 => k0 r44)) else k0 false))) else k0 false) else k0 false))) else k0 false) else k0 false))) else k0 false) else k0 false)))))))) else (bif (r28 == 0) then (g.z0z r2 r6 r12 r14 (fun r45 => (g.z9z r2 r6 r12 r14 (fun r46 => (g.z31z r6 (fun r47 => (g.z51z r6 (fun r48 => (bif (r47 == r48) then (bif (r17 == r24) then (g.z45z r16 (fun r49 => (bif r49 then (bif (r19 == r28) then (g.z20z r18 r45 (fun r50 => (bif r50 then (bif (r21 == r28) then (g.z24z r20 r46 (fun r51 => (bif r51 then (g.law_banded (fun r52 => k0 r52)) else k0 false))) else k0 false) else k0 false))) else k0 false) else k0 false))) else k0 false) else k0 false))))))))) else (g.z31z r6 (fun r53 => (g.z51z r6 (fun r54 => (bif (r53 == r54) then (bif (r17 == r24) then (g.z45z r16 (fun r55 => (bif r55 then (bif (r19 == r28) then (g.z45z r18 (fun r56 => (bif r56 then (bif (r21 == r28) then (g.z48z r20 (fun r57 => (bif r57 then (g.law_banded (fun r58 => k0 r58)) else k0 false))) else k0 false) else k0 false))) else k0 false) else k0 false))) else k0 false) else k0 false)))))))))))))))))))))))))))))))))))))))))
noncomputable def I_law_SpotsHeard [Fuel] : C_law_SpotsHeard := ⟨NN, @z82z _, @z50z _, @z77z _, @z68z _, @law_errs _, @z34z _, @z51z _, @z88z _, @z20z _, @z45z _, @law_banded _, @band_Merge _, @band_Heard _, @z3z _, @Q_SpotsOf _, @z0z _, @z9z _, @z31z _, @z24z _, @z48z _⟩
noncomputable def law_SpotsHeard [Fuel] : T_law_SpotsHeard := @law_SpotsHeard_ I_law_SpotsHeard
def SS_law_SpotsHeard (g : T_law_SpotsHeard) : Spec A := fun args => match args with | [.d (.sl 3 a1)] => fun k => g a1 (fun z0 => k (.d (.bool z0)) [.undef]) | _ => fun _ => none
noncomputable def code_4 : Code := (Tryz.f4.body).getD .skip
noncomputable def E_law_SpotsHeard (g : C_law_SpotsHeard) : Env A := mkE [(5, SS_z82z g.z82z), (6, SS_z50z g.z50z), (7, SS_z77z g.z77z), (9, SS_z68z g.z68z), (13, SS_law_errs g.law_errs), (14, SS_z34z g.z34z), (15, SS_z51z g.z51z), (18, SS_z88z g.z88z), (22, orS p_z20z (SS_z20z g.z20z) (SS_z45z g.z45z)), (24, SS_law_banded g.law_banded), (25, SS_band_Merge g.band_Merge), (26, SS_band_Heard g.band_Heard), (27, SS_z3z g.z3z), (28, SS_Q_SpotsOf g.Q_SpotsOf), (29, SS_z0z g.z0z), (30, SS_z9z g.z9z), (31, SS_z31z g.z31z), (32, orS p_z24z (SS_z24z g.z24z) (SS_z48z g.z48z))] [(22, [0]), (24, [1]), (28, [2]), (32, [3]), (34, [4]), (37, [5]), (42, [6]), (50, [7]), (58, [8]), (65, [9]), (74, [10]), (81, [11]), (90, [12]), (95, [13])] [] [] [] [] [] [] [] []
theorem sm_law_SpotsHeard (g : C_law_SpotsHeard) : Same (SS_law_SpotsHeard (@law_SpotsHeard_ g)) (abody (E_law_SpotsHeard g) Tryz.f4 code_4 14 [] [.asis] g.N) := by intro args; unfold SS_law_SpotsHeard; split; exact .inr fun R k => (by kernel_rfl); exact .inl fun R k => rfl
theorem ok_law_SpotsHeard [Fuel] : Ok 4 (SS_law_SpotsHeard (@law_SpotsHeard _)) := okF_of std (.cons ok_z82z (.cons ok_z50z (.cons ok_z77z (.cons ok_z68z (.cons ok_law_errs (.cons ok_z34z (.cons ok_z51z (.cons ok_z88z (.cons (ok_or p_z20z ok_z20z ok_z45z) (.cons ok_law_banded (.cons ok_band_Merge (.cons ok_band_Heard (.cons ok_z3z (.cons ok_Q_SpotsOf (.cons ok_z0z (.cons ok_z9z (.cons ok_z31z (.cons (ok_or p_z24z ok_z24z ok_z48z) .nil)))))))))))))))))) ⟨rfl, rfl, by kernel_rfl, rfl, rfl, rfl⟩ (sm_law_SpotsHeard I_law_SpotsHeard) (cuts0 (fun _ => rfl) (by kernel_rfl)) Tryz.func4 (by kernel_rfl) (by kernel_rfl)
end Go.Am
