/- The functions of the program as Lean functions, each shown to be what the code computes, part 10. No condition: lemmas for the claim. -/
import Derived.Test.YtoajjnhmofegcaaGreatDoorF0
import Derived.Test.YtoajjnhmofegcaaGreatDoorFSh
import Derived.Test.YtoajjnhmofegcaaGreatDoorF1
import Derived.Test.YtoajjnhmofegcaaGreatDoorF2
import Derived.Test.YtoajjnhmofegcaaGreatDoorF4
import Derived.Test.YtoajjnhmofegcaaGreatDoorF5
import Derived.Test.YtoajjnhmofegcaaGreatDoorF6
import Derived.Test.YtoajjnhmofegcaaGreatDoorF7
import Derived.Test.YtoajjnhmofegcaaGreatDoorF8
import Derived.Test.YtoajjnhmofegcaaGreatDoorF9
set_option linter.unusedVariables false
set_option maxRecDepth 100000
namespace Go.Am
open Go Go.Proofs
abbrev yiTy:Type 1:=List Int→{R:Type}→(Bool→Option R)→Option R
structure C_law_DeedTexts where
 N:Nat
 z38z:yjwy
 z13z:yqhy
 z27z:yuXy
 net_Text:ykoy
 z3z:T_z3z
 z33z:yp4y
 net_Read:ykvy
 z11z:ytHy
 z31z:yvBy
 law_netted:yiiy
def yd8y (g:C_law_DeedTexts) (a1:List Int) {R:Type} (k0:Bool→Option R):Option R :=
 (g.z38z (⟨a1,0⟩:G_Stream) 0 6 (fun r2 r3=>(g.z13z r3 r2 (fun r4 r5=>(g.z27z r5 (fun r6 r7=>(g.net_Text r4 (fun r8 r9=>(g.z3z r4 (fun r10=>(bif (r10 == 0) then (g.z33z r4 (fun r11=>(g.net_Read r6 (fun r12 r13 r14=>(g.z11z r6 (fun r15 r16 r17=>(bif (r9 == r10) then (bif (r8 == r11) then (g.z31z r12 r15 (fun r18=>(bif r18 then (bif (r13 == r16) then (bif (r14 == r17) then (g.law_netted (fun r19=>k0 r19)) else k0 false) else k0 false) else k0 false))) else k0 false) else k0 false))))))) else (g.net_Read r6 (fun r20 r21 r22=>(g.z11z r6 (fun r23 r24 r25=>(bif (r9 == r10) then (bif (r8 == []) then (g.z31z r20 r23 (fun r26=>(bif r26 then (bif (r21 == r24) then (bif (r22 == r25) then (g.law_netted (fun r27=>k0 r27)) else k0 false) else k0 false) else k0 false))) else k0 false) else k0 false))))))))))))))))
noncomputable def yaDy [Fuel]:C_law_DeedTexts:=⟨NN,@z38z _,@z13z _,@z27z _,@net_Text _,@z3z _,@z33z _,@net_Read _,@z11z _,@z31z _,@law_netted _⟩
noncomputable def law_DeedTexts [Fuel]:yiTy:=@yd8y yaDy
def SS_law_DeedTexts (g:yiTy):Spec A:=fun args=>match args with | [.d (.sl 3 a1)]=>fun k=>g a1 (fun z0=>k (.d (.bool z0)) [.undef]) | _=>fun _=>none
noncomputable def yJCy:Code:=(Tryz.f6.body).getD .skip
noncomputable def yq9y (g:C_law_DeedTexts):Env A:=mkE [(8,ygey g.z38z),(35,ykhy g.z13z),(36,yn1y g.z27z),(37,yguy g.net_Text),(38,yj4y g.z3z),(39,yjOy g.z33z),(40,ygGy g.net_Read),(41,yn3y g.z11z),(42,ynXy g.z31z),(43,yeKy g.law_netted)] [(18,[0]),(22,[1]),(38,[2]),(44,[3])] [] [] [] [] [] [] [] []
theorem yoOy (g:C_law_DeedTexts):Same (SS_law_DeedTexts (@yd8y g)) (abody (yq9y g) Tryz.f6 yJCy 4 [] [.asis] g.N):=by intro args;unfold SS_law_DeedTexts;split;exact .inr fun R k=>(by kernel_rfl);exact .inl fun R k=>rfl
theorem ok_law_DeedTexts [Fuel]:Ok 6 (SS_law_DeedTexts (@law_DeedTexts _)):=yacy std (.cons yhQy (.cons yrqy (.cons yFUy (.cons yw3y (.cons ypTy (.cons yrMy (.cons yxmy (.cons yHMy (.cons yGoy (.cons ys6y .nil)))))))))) ⟨rfl,rfl,by kernel_rfl,rfl,rfl,rfl⟩ (yoOy yaDy) (cuts0 (fun _=>rfl) (by kernel_rfl)) Tryz.func6 (by kernel_rfl) (by kernel_rfl)
end Go.Am
