/- The functions of the program as Lean functions, each shown to be what the code computes, part 8. No condition: lemmas for the claim. -/
import Derived.Test.YtoajjnhmofegcaaGreatDoorF0
import Derived.Test.YtoajjnhmofegcaaGreatDoorFSh
import Derived.Test.YtoajjnhmofegcaaGreatDoorF1
import Derived.Test.YtoajjnhmofegcaaGreatDoorF2
import Derived.Test.YtoajjnhmofegcaaGreatDoorF3
import Derived.Test.YtoajjnhmofegcaaGreatDoorF4
import Derived.Test.YtoajjnhmofegcaaGreatDoorF5
import Derived.Test.YtoajjnhmofegcaaGreatDoorF6
import Derived.Test.YtoajjnhmofegcaaGreatDoorF7
set_option linter.unusedVariables false
set_option maxRecDepth 100000
namespace Go.Am
open Go Go.Proofs
abbrev T_law_SpotTexts : Type 1 := List Int → {R : Type} → (Bool → Option R) → Option R
structure C_law_SpotTexts where
 N : Nat
 Stream_Range : T_Stream_Range
 Stream_Spots : T_Stream_Spots
 Stream_SpotText : T_Stream_SpotText
 band_Text : T_band_Text
 Q_SpotsFault : T_Q_SpotsFault
 Q_SpotLines : T_Q_SpotLines
 band_Read : T_band_Read
 Q_SpotsRead : T_Q_SpotsRead
 slices_Equal__Spot : T_slices_Equal__Spot
 law_banded : T_law_banded
def law_SpotTexts_ (g : C_law_SpotTexts) (a1 : List Int) {R : Type} (k0 : Bool → Option R) : Option R :=
 (g.Stream_Range (⟨a1, 0⟩ : G_Stream) 0 6 (fun r2 r3 => (g.Stream_Spots r3 r2 (fun r4 r5 => (g.Stream_SpotText r5 (fun r6 r7 => (g.band_Text r4 (fun r8 r9 => (g.Q_SpotsFault r4 (fun r10 => (bif (r10 == 0) then (g.Q_SpotLines r4 (fun r11 => (g.band_Read r6 (fun r12 r13 r14 => (g.Q_SpotsRead r6 (fun r15 r16 r17 => (bif (r9 == r10) then (bif (r8 == r11) then (g.slices_Equal__Spot r12 r15 (fun r18 => (bif r18 then (bif (r13 == r16) then (bif (r14 == r17) then (g.law_banded (fun r19 => k0 r19)) else k0 false) else k0 false) else k0 false))) else k0 false) else k0 false))))))) else (g.band_Read r6 (fun r20 r21 r22 => (g.Q_SpotsRead r6 (fun r23 r24 r25 => (bif (r9 == r10) then (bif (r8 == []) then (g.slices_Equal__Spot r20 r23 (fun r26 => (bif r26 then (bif (r21 == r24) then (bif (r22 == r25) then (g.law_banded (fun r27 => k0 r27)) else k0 false) else k0 false) else k0 false))) else k0 false) else k0 false))))))))))))))))
noncomputable def I_law_SpotTexts [Fuel] : C_law_SpotTexts := ⟨NN, @Stream_Range _, @Stream_Spots _, @Stream_SpotText _, @band_Text _, @Q_SpotsFault _, @Q_SpotLines _, @band_Read _, @Q_SpotsRead _, @slices_Equal__Spot _, @law_banded _⟩
noncomputable def law_SpotTexts [Fuel] : T_law_SpotTexts := @law_SpotTexts_ I_law_SpotTexts
def SS_law_SpotTexts (g : T_law_SpotTexts) : Spec A := fun args => match args with | [.d (.sl 3 a1)] => fun k => g a1 (fun z0 => k (.d (.bool z0)) [.undef]) | _ => fun _ => none
noncomputable def code_5 : Code := (Tryz.f5.body).getD .skip
noncomputable def E_law_SpotTexts (g : C_law_SpotTexts) : Env A := mkE [(8, SS_Stream_Range g.Stream_Range), (26, SS_Stream_Spots g.Stream_Spots), (27, SS_Stream_SpotText g.Stream_SpotText), (28, SS_band_Text g.band_Text), (29, SS_Q_SpotsFault g.Q_SpotsFault), (30, SS_Q_SpotLines g.Q_SpotLines), (31, SS_band_Read g.band_Read), (32, SS_Q_SpotsRead g.Q_SpotsRead), (33, SS_slices_Equal__Spot g.slices_Equal__Spot), (34, SS_law_banded g.law_banded)] [(18, [0]), (22, [1]), (38, [2]), (44, [3])] [] [] [] [] [] [] [] []
theorem sm_law_SpotTexts (g : C_law_SpotTexts) : Same (SS_law_SpotTexts (@law_SpotTexts_ g)) (abody (E_law_SpotTexts g) Tryz.f5 code_5 4 [] [.asis] g.N) := by intro args; unfold SS_law_SpotTexts; split; exact .inr fun R k => (by kernel_rfl); exact .inl fun R k => rfl
theorem ok_law_SpotTexts [Fuel] : Ok 5 (SS_law_SpotTexts (@law_SpotTexts _)) := okF_of std (.cons ok_Stream_Range (.cons ok_Stream_Spots (.cons ok_Stream_SpotText (.cons ok_band_Text (.cons ok_Q_SpotsFault (.cons ok_Q_SpotLines (.cons ok_band_Read (.cons ok_Q_SpotsRead (.cons ok_slices_Equal__Spot (.cons ok_law_banded .nil)))))))))) ⟨rfl, rfl, by kernel_rfl, rfl, rfl, rfl⟩ (sm_law_SpotTexts I_law_SpotTexts) (cuts0 (fun _ => rfl) (by kernel_rfl)) Tryz.func5 (by kernel_rfl) (by kernel_rfl)
end Go.Am
