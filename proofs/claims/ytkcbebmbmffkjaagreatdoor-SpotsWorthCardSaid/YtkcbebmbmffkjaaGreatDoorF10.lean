/- The functions of the program as Lean functions, each shown to be what the code computes, part 10. No condition: lemmas for the claim. -/
import Derived.Test.YtkcbebmbmffkjaaGreatDoorF0
import Derived.Test.YtkcbebmbmffkjaaGreatDoorFSh
import Derived.Test.YtkcbebmbmffkjaaGreatDoorF2
import Derived.Test.YtkcbebmbmffkjaaGreatDoorF8
import Derived.Test.YtkcbebmbmffkjaaGreatDoorF9
set_option linter.unusedVariables false
set_option maxRecDepth 100000
namespace Go.Am
open Go Go.Proofs
abbrev yuoy:Type 1:=G_Contact→{R:Type}→(Int→Option R)→Option R
structure C_z100z where
 N:Nat
 Q_Key:yphy
 Q_in:yg1y
 Q_Moment:ye0y
 Q_Call:ykUy
def z100z_ (g:C_z100z) (a1:G_Contact) {R:Type} (k0:Int→Option R):Option R :=
 (g.Q_Moment a1.f_At (fun r2=>(bif (!r2) then k0 1 else (g.Q_in a1.f_Mode 1 3 (fun r3=>(bif (!r3) then k0 4 else (g.Q_Key a1.f_Band (fun r4=>(bif (!r4) then k0 5 else (g.Q_Call a1.f_Call (fun r5=>(bif (!r5) then k0 3 else (g.Q_in a1.f_Sent 0 99999 (fun r6=>(bif (!r6) then k0 1 else (g.Q_in a1.f_Heard 0 99999 (fun r7=>(bif (!r7) then k0 1 else (bif (!(a1.f_Gave == [])) then (g.Q_Key a1.f_Gave (fun r8=>(bif (!r8) then k0 5 else (bif (!(a1.f_Got == [])) then (g.Q_Key a1.f_Got (fun r9=>(bif (!r9) then k0 5 else k0 0))) else k0 0)))) else (bif (!(a1.f_Got == [])) then (g.Q_Key a1.f_Got (fun r10=>(bif (!r10) then k0 5 else k0 0))) else k0 0))))))))))))))))))))
noncomputable def ytXy [Fuel]:C_z100z:=⟨NN,@Q_Key _,@Q_in _,@Q_Moment _,@Q_Call _⟩
noncomputable def z100z [Fuel]:yuoy:=@z100z_ ytXy
def ylpy (g:yuoy):Spec A:=fun args=>match args with | [.agg [.d (.int .i64 a1),.d (.int .i64 a2),.d (.str a3),.d (.str a4),.d (.int .i64 a5),.d (.int .i64 a6),.d (.str a7),.d (.str a8)]]=>fun k=>g ⟨a1,a2,a3,a4,a5,a6,a7,a8⟩ (fun z0=>k (.d (.int .i64 z0)) [.undef]) | _=>fun _=>none
noncomputable def yKpy:Code:=(Tryz.f61.body).getD .skip
noncomputable def yN8y (g:C_z100z):Env A:=mkE [(56,yixy g.Q_Key),(57,ydTy g.Q_in),(59,ydry g.Q_Moment),(60,yhmy g.Q_Call)] [(1,[0])] [] [] [] [] [] [] [] []
theorem yJoy (g:C_z100z):Same (ylpy (@z100z_ g)) (abody (yN8y g) Tryz.f61 yKpy 1 [] [.asis] g.N):=by intro args; unfold ylpy; split; exact .inr fun R k=>(by kernel_rfl); exact .inl fun R k=>rfl
theorem yzmy [Fuel]:Ok 61 (ylpy (@z100z _)):=yaay std (.cons yiey (.cons yeDy (.cons ygPy (.cons yjfy .nil)))) ⟨rfl,rfl,by kernel_rfl,rfl,rfl,rfl⟩ (yJoy ytXy) (cuts0 (fun _=>rfl) (by kernel_rfl)) Tryz.func61 (by kernel_rfl) (by kernel_rfl)
abbrev yiQy:Type 1:=List G_Contact→{R:Type}→(Int→Option R)→Option R
structure C_Q_LogFault where
 N:Nat
 z13z:ynhy
 z100z:yuoy
def ybpy (g:C_Q_LogFault):Nat→List G_Contact→List G_Contact→Int→Int→{R:Type}→(Int→Option R)→Option R→Option R
 | 0,_,_,_,_,_,_,_=>none
 | n + 1,v2,v3,v4,v5,_,e0,e1=>(bif (decide (v5 < v4)) then (get_ v3 v5 fun x10=>(g.z100z x10 (fun r11=>(bif (r11 != 0) then e0 r11 else (bif (decide (v5 > 0)) then (get_ v2 (w64 (v5 - 1)) fun x12=>(g.z13z x12 x10 (fun r13=>(bif (decide (r13 ≥ 0)) then e0 7 else ybpy g n v2 v3 v4 (w64 (v5 + 1)) e0 e1)))) else ybpy g n v2 v3 v4 (w64 (v5 + 1)) e0 e1))))) else e1)
def yjpy (g:C_Q_LogFault) (a1:List G_Contact) {R:Type} (k0:Int→Option R):Option R :=
 (bif (decide ((a1.length:Int) > 2000)) then k0 2 else (ybpy g g.N a1 a1 (a1.length:Int) 0 (fun e14=>k0 e14) (k0 0)))
noncomputable def ybay [Fuel]:C_Q_LogFault:=⟨NN,@z13z _,@z100z _⟩
noncomputable def Q_LogFault [Fuel]:yiQy:=@yjpy ybay
def yely (g:yiQy):Spec A:=fun args=>match args with | [.d (.sl 77 a1)]=>fun k=>g a1 (fun z0=>k (.d (.int .i64 z0)) [.undef]) | _=>fun _=>none
def yeuy:SSt:=mkSh 34 1 [(0,.sl 77),(9,.sl 77),(10,.int .i64),(11,.int .i64)] []
def yb6y (g:C_Q_LogFault) (n:Nat):LPT A:=fun ps=>match ps with | [.d (.sl 77 p1),.d (.sl 77 p2),.d (.int .i64 p3),.d (.int .i64 p4)]=>fun K=>ybpy g n p1 p2 p3 p4 (fun z0=>K .ret (mkSt 34 1 [(2,.d (.int .i64 z0))] [])) (K (.exit 0) (mkSt 34 1 [] [])) | _=>fun _=>none
noncomputable def yB9y:Code:=(Tryz.f16.body).getD .skip
noncomputable def yeQy (g:C_Q_LogFault):Env A:=mkE [(44,yh3y g.z13z),(61,ylpy g.z100z)] [(4,[0])] [(4,⟨[0,9,10,11],[],[],[],[],[],[]⟩)] [(4,⟨[2],[],[],[],[],[],[]⟩)] [(4,yaey yeuy (yb6y g g.N))] [] [] [] [] []
theorem yv8y [Fuel]:yagy (yeQy ybay).C:=ct_of (P:=Tryz.prog) (T:=T) (.cons ykey (.cons yzmy .nil)) (by kernel_rfl)
noncomputable def yiNy:Code:=sub [1,1,0,1,0,0] yB9y
theorem ysUy (g:C_Q_LogFault) (n:Nat):yahy (yeQy g) g.N yiNy yeuy (yb6y g) n:=by intro ps; unfold yb6y; split; exact .inr fun R K=>(by kernel_rfl); exact .inl fun R K=>rfl
theorem yqKy [Fuel]:yacy (yeQy ybay) NN yiNy:=yaby yeuy (yb6y ybay) (by kernel_rfl) yv8y (cuts0 (fun _=>rfl) (by kernel_rfl)) (fun ps R K=>by unfold yb6y; split <;> (try unfold ybpy) <;> rfl) (ysUy ybay)
theorem ywAy (g:C_Q_LogFault):Same (yely (@yjpy g)) (abody (yeQy g) Tryz.f16 yB9y 1 [] [.asis] g.N):=by intro args; unfold yely; split; exact .inr fun R k=>(by kernel_rfl); exact .inl fun R k=>rfl
theorem ywFy [Fuel]:Ok 16 (yely (@Q_LogFault _)):=yaay std (.cons ykey (.cons yzmy .nil)) ⟨rfl,rfl,by kernel_rfl,rfl,rfl,rfl⟩ (ywAy ybay) (cutsL (fun _=>rfl) (.cons yqKy .nil) (by kernel_rfl)) Tryz.func16 (by kernel_rfl) (by kernel_rfl)
abbrev yhPy:Type 1:=Bool→Int→{R:Type}→(Int→Option R)→Option R
def yi3y (g:Nat) (a1:Bool) (a2:Int) {R:Type} (k0:Int→Option R):Option R :=
 (bif a1 then k0 a2 else k0 0)
noncomputable def law_when [Fuel]:yhPy:=@yi3y NN
def yd5y (g:yhPy):Spec A:=fun args=>match args with | [.d (.bool a1),.d (.int .i64 a2)]=>fun k=>g a1 a2 (fun z0=>k (.d (.int .i64 z0)) [.undef,.undef]) | _=>fun _=>none
noncomputable def yMWy:Code:=(Tryz.f62.body).getD .skip
noncomputable def yDIy (g:Nat):Env A:=mkE [] [] [] [] [] [] [] [] [] []
theorem yAJy (g:Nat):Same (yd5y (@yi3y g)) (abody (yDIy g) Tryz.f62 yMWy 0 [] [.asis] g):=by intro args; unfold yd5y; split; exact .inr fun R k=>(by kernel_rfl); exact .inl fun R k=>rfl
theorem yqqy [Fuel]:Ok 62 (yd5y (@law_when _)):=yaay std .nil ⟨rfl,rfl,by kernel_rfl,rfl,rfl,rfl⟩ (yAJy NN) (cuts0 (fun _=>rfl) (by kernel_rfl)) Tryz.func62 (by kernel_rfl) (by kernel_rfl)
abbrev yury:Type 1:=Int→{R:Type}→(Int→Option R)→Option R
structure C_z102z where
 N:Nat
 law_when:yhPy
def z102z_ (g:C_z102z) (a1:Int) {R:Type} (k0:Int→Option R):Option R :=
 (bif (decide (a1 < 1)) then (g.law_when true 4 (fun r2=>k0 r2)) else (g.law_when (decide (a1 > 3)) 4 (fun r3=>k0 r3)))
noncomputable def yuBy [Fuel]:C_z102z:=⟨NN,@law_when _⟩
noncomputable def z102z [Fuel]:yury:=@z102z_ yuBy
def ylYy (g:yury):Spec A:=fun args=>match args with | [.d (.int .i64 a1)]=>fun k=>g a1 (fun z0=>k (.d (.int .i64 z0)) [.undef]) | _=>fun _=>none
noncomputable def yMIy:Code:=(Tryz.f17.body).getD .skip
noncomputable def yMny (g:C_z102z):Env A:=mkE [(62,yd5y g.law_when)] [] [] [] [] [] [] [] [] []
theorem yJgy (g:C_z102z):Same (ylYy (@z102z_ g)) (abody (yMny g) Tryz.f17 yMIy 0 [] [.asis] g.N):=by intro args; unfold ylYy; split; exact .inr fun R k=>(by kernel_rfl); exact .inl fun R k=>rfl
theorem yIwy [Fuel]:Ok 17 (ylYy (@z102z _)):=yaay std (.cons yqqy .nil) ⟨rfl,rfl,by kernel_rfl,rfl,rfl,rfl⟩ (yJgy yuBy) (cuts0 (fun _=>rfl) (by kernel_rfl)) Tryz.func17 (by kernel_rfl) (by kernel_rfl)
abbrev yudy:Type 1:=Int→Int→{R:Type}→(Int→Option R)→Option R
structure C_z109z where
 N:Nat
 Q_in:yg1y
 Q_Moment:ye0y
def z109z_ (g:C_z109z) (a1 a2:Int) {R:Type} (k0:Int→Option R):Option R :=
 (g.Q_in a1 1 86400000 (fun r3=>(bif (!r3) then k0 1 else (g.Q_Moment a2 (fun r4=>(bif (!r4) then k0 1 else k0 0))))))
noncomputable def yuxy [Fuel]:C_z109z:=⟨NN,@Q_in _,@Q_Moment _⟩
noncomputable def z109z [Fuel]:yudy:=@z109z_ yuxy
def ylby (g:yudy):Spec A:=fun args=>match args with | [.d (.int .i64 a1),.d (.int .i64 a2)]=>fun k=>g a1 a2 (fun z0=>k (.d (.int .i64 z0)) [.undef,.undef]) | _=>fun _=>none
noncomputable def yNOy:Code:=(Tryz.f18.body).getD .skip
noncomputable def yNhy (g:C_z109z):Env A:=mkE [(57,ydTy g.Q_in),(59,ydry g.Q_Moment)] [] [] [] [] [] [] [] [] []
theorem yIOy (g:C_z109z):Same (ylby (@z109z_ g)) (abody (yNhy g) Tryz.f18 yNOy 0 [] [.asis] g.N):=by intro args; unfold ylby; split; exact .inr fun R k=>(by kernel_rfl); exact .inl fun R k=>rfl
theorem yIry [Fuel]:Ok 18 (ylby (@z109z _)):=yaay std (.cons yeDy (.cons ygPy .nil)) ⟨rfl,rfl,by kernel_rfl,rfl,rfl,rfl⟩ (yIOy yuxy) (cuts0 (fun _=>rfl) (by kernel_rfl)) Tryz.func18 (by kernel_rfl) (by kernel_rfl)
abbrev yxjy:Type 1:=Int→{R:Type}→(Int→Option R)→Option R
structure C_z98z where
 N:Nat
 law_when:yhPy
def z98z_ (g:C_z98z) (a1:Int) {R:Type} (k0:Int→Option R):Option R :=
 (bif (decide (a1 < 0)) then (g.law_when true 1 (fun r2=>k0 r2)) else (g.law_when (decide (a1 > 30000000000)) 1 (fun r3=>k0 r3)))
noncomputable def yzMy [Fuel]:C_z98z:=⟨NN,@law_when _⟩
noncomputable def z98z [Fuel]:yxjy:=@z98z_ yzMy
def yoQy (g:yxjy):Spec A:=fun args=>match args with | [.d (.int .i64 a1)]=>fun k=>g a1 (fun z0=>k (.d (.int .i64 z0)) [.undef]) | _=>fun _=>none
noncomputable def yKsy:Code:=(Tryz.f19.body).getD .skip
noncomputable def yOOy (g:C_z98z):Env A:=mkE [(62,yd5y g.law_when)] [] [] [] [] [] [] [] [] []
theorem yMiy (g:C_z98z):Same (yoQy (@z98z_ g)) (abody (yOOy g) Tryz.f19 yKsy 0 [] [.asis] g.N):=by intro args; unfold yoQy; split; exact .inr fun R k=>(by kernel_rfl); exact .inl fun R k=>rfl
theorem yNXy [Fuel]:Ok 19 (yoQy (@z98z _)):=yaay std (.cons yqqy .nil) ⟨rfl,rfl,by kernel_rfl,rfl,rfl,rfl⟩ (yMiy yzMy) (cuts0 (fun _=>rfl) (by kernel_rfl)) Tryz.func19 (by kernel_rfl) (by kernel_rfl)
abbrev yf2y:Type 1:=List G_Band→Int→{R:Type}→(List UInt8→Option R)→Option R
def ybHy (g:Nat):Nat→Int→List G_Band→Int→Int→{R:Type}→(List UInt8→Option R)→Option R→Option R
 | 0,_,_,_,_,_,_,_=>none
 | n + 1,v3,v4,v5,v6,_,e0,e1=>(bif (decide (v6 < v5)) then (get_ v4 v6 fun x8=>(bif (decide (x8.f_Low≤v3)) then (bif (decide (v3 < x8.f_High)) then e0 x8.f_Key else ybHy g n v3 v4 v5 (w64 (v6 + 1)) e0 e1) else ybHy g n v3 v4 v5 (w64 (v6 + 1)) e0 e1)) else e1)
def ym2y (g:Nat) (a1:List G_Band) (a2:Int) {R:Type} (k0:List UInt8→Option R):Option R :=
 (ybHy g g a2 a1 (a1.length:Int) 0 (fun e9=>k0 e9) (k0 []))
noncomputable def Q_BandAt [Fuel]:yf2y:=@ym2y NN
def ydly (g:yf2y):Spec A:=fun args=>match args with | [.d (.sl 69 a1),.d (.int .i64 a2)]=>fun k=>g a1 a2 (fun z0=>k (.d (.str z0)) [.undef,.undef]) | _=>fun _=>none
def ygqy:SSt:=mkSh 26 1 [(1,.int .i64),(7,.sl 69),(8,.int .i64),(9,.int .i64)] []
def ycKy (g:Nat) (n:Nat):LPT A:=fun ps=>match ps with | [.d (.int .i64 p1),.d (.sl 69 p2),.d (.int .i64 p3),.d (.int .i64 p4)]=>fun K=>ybHy g n p1 p2 p3 p4 (fun z0=>K .ret (mkSt 26 1 [(4,.d (.str z0))] [])) (K (.exit 0) (mkSt 26 1 [] [])) | _=>fun _=>none
noncomputable def yCAy:Code:=(Tryz.f67.body).getD .skip
noncomputable def yhOy (g:Nat):Env A:=mkE [] [(6,[0])] [(2,⟨[1,7,8,9],[],[],[],[],[],[]⟩)] [(2,⟨[4],[],[],[],[],[],[]⟩)] [(2,yaey ygqy (ycKy g g))] [] [] [] [] []
theorem yA2y [Fuel]:yagy (yhOy NN).C:=ct_of (P:=Tryz.prog) (T:=T) .nil (by kernel_rfl)
noncomputable def yjTy:Code:=sub [1,0,1,0,0] yCAy
theorem ywey (g:Nat) (n:Nat):yahy (yhOy g) g yjTy ygqy (ycKy g) n:=by intro ps; unfold ycKy; split; exact .inr fun R K=>(by kernel_rfl); exact .inl fun R K=>rfl
theorem yufy [Fuel]:yacy (yhOy NN) NN yjTy:=yaby ygqy (ycKy NN) (by kernel_rfl) yA2y (cuts0 (fun _=>rfl) (by kernel_rfl)) (fun ps R K=>by unfold ycKy; split <;> (try unfold ybHy) <;> rfl) (ywey NN)
theorem yBay (g:Nat):Same (ydly (@ym2y g)) (abody (yhOy g) Tryz.f67 yCAy 1 [] [.asis] g):=by intro args; unfold ydly; split; exact .inr fun R k=>(by kernel_rfl); exact .inl fun R k=>rfl
theorem yjDy [Fuel]:Ok 67 (ydly (@Q_BandAt _)):=yaay std .nil ⟨rfl,rfl,by kernel_rfl,rfl,rfl,rfl⟩ (yBay NN) (cutsL (fun _=>rfl) (.cons yufy .nil) (by kernel_rfl)) Tryz.func67 (by kernel_rfl) (by kernel_rfl)
abbrev ytly:Type 1:=G_Spot→Int→Int→List G_Band→{R:Type}→(Bool→Option R)→Option R
structure C_z73z where
 N:Nat
 Q_BandAt:yf2y
def z73z_ (g:C_z73z) (a1:G_Spot) (a2 a3:Int) (a4:List G_Band) {R:Type} (k0:Bool→Option R):Option R :=
 (bif (decide ((w64 (a2 - a3)) < a1.f_At)) then (bif (decide (a1.f_At≤a2)) then (g.Q_BandAt a4 a1.f_Hertz (fun r5=>k0 (!(r5 == [])))) else k0 false) else k0 false)
noncomputable def yAiy [Fuel]:C_z73z:=⟨NN,@Q_BandAt _⟩
noncomputable def z73z [Fuel]:ytly:=@z73z_ yAiy
def yjKy (g:ytly):Spec A:=fun args=>match args with | [.agg [.d (.int .i64 a1),.d (.int .i64 a2),.d (.str a3),.d (.str a4)],.cel [.int .i64 a5] 0,.cel [.int .i64 a6] 0,.cel [.sl 69 a7] 0]=>fun k=>g ⟨a1,a2,a3,a4⟩ a5 a6 a7 (fun z0=>k (.d (.bool z0)) [.undef,.undef,.undef,.undef]) | _=>fun _=>none
noncomputable def yLDy:Code:=(Tryz.f80.body).getD .skip
noncomputable def yOYy (g:C_z73z):Env A:=mkE [(67,ydly g.Q_BandAt)] [(4,[0])] [] [] [] [] [] [] [] []
theorem yJBy (g:C_z73z):Same (yjKy (@z73z_ g)) (abody (yOYy g) Tryz.f80 yLDy 1 [] [.asis] g.N):=by intro args; unfold yjKy; split; exact .inr fun R k=>(by kernel_rfl); exact .inl fun R k=>rfl
theorem yuLy [Fuel]:Ok 80 (yjKy (@z73z _)):=yaay std (.cons yjDy .nil) ⟨rfl,rfl,by kernel_rfl,rfl,rfl,rfl⟩ (yJBy yAiy) (cuts0 (fun _=>rfl) (by kernel_rfl)) Tryz.func80 (by kernel_rfl) (by kernel_rfl)
abbrev yxiy:Type 1:=G_Spot→Int→Int→List G_Band→G_Spot→List G_Band→{R:Type}→(Bool→Int→Int→List G_Band→G_Spot→Option R)→Option R
structure C_z55z where
 N:Nat
 Q_BandAt:yf2y
 z73z:ytly
def z55z_ (g:C_z55z) (a1:G_Spot) (a2 a3:Int) (a4:List G_Band) (a5:G_Spot) (a6:List G_Band) {R:Type} (k0:Bool→Int→Int→List G_Band→G_Spot→Option R):Option R :=
 (g.z73z a1 a2 a3 a4 (fun r7=>(bif r7 then (bif (a1.f_Call == a5.f_Call) then (g.Q_BandAt a6 a1.f_Hertz (fun r8=>(g.Q_BandAt a6 a5.f_Hertz (fun r9=>k0 (r8 == r9) a2 a3 a4 a5)))) else k0 false a2 a3 a4 a5) else k0 false a2 a3 a4 a5)))
noncomputable def yxEy [Fuel]:C_z55z:=⟨NN,@Q_BandAt _,@z73z _⟩
noncomputable def z55z [Fuel]:yxiy:=@z55z_ yxEy
def ypOy (g:yxiy):Spec A:=fun args=>match args with | [.agg [.d (.int .i64 a1),.d (.int .i64 a2),.d (.str a3),.d (.str a4)],.box [.fn 80 [.cel [.int .i64 a5] 0,.cel [.int .i64 a6] 0,.cel [.sl 69 a7] 0]],.box [.d (.int .i64 a8),.d (.int .i64 a9),.d (.str a10),.d (.str a11)],.cel [.sl 69 a12] 0]=>fun k=>g ⟨a1,a2,a3,a4⟩ a5 a6 a7 ⟨a8,a9,a10,a11⟩ a12 (fun z0 z1 z2 z3 z4=>k (.d (.bool z0)) [.undef,.box [.fn 80 [.cel [.int .i64 z1] 0,.cel [.int .i64 z2] 0,.cel [.sl 69 z3] 0]],.box [.d (.int .i64 z4.f_At),.d (.int .i64 z4.f_Hertz),.d (.str z4.f_Call),.d (.str z4.f_By)],.undef]) | _=>fun _=>none
noncomputable def yJUy:Code:=(Tryz.f82.body).getD .skip
noncomputable def yPQy (g:C_z55z):Env A:=mkE [(67,ydly g.Q_BandAt),(80,yjKy g.z73z)] [(4,[2])] [] [] [] [] [] [] [] [1,2]
theorem yMfy (g:C_z55z):Same (ypOy (@z55z_ g)) (abody (yPQy g) Tryz.f82 yJUy 3 [0,1] [.asis] g.N):=by intro args; unfold ypOy; split; exact .inr fun R k=>(by kernel_rfl); exact .inl fun R k=>rfl
theorem yCPy [Fuel]:Ok 82 (ypOy (@z55z _)):=yaay std (.cons yjDy (.cons yuLy .nil)) ⟨rfl,rfl,by kernel_rfl,rfl,rfl,rfl⟩ (yMfy yxEy) (cuts0 (fun _=>rfl) (by kernel_rfl)) Tryz.func82 (by kernel_rfl) (by kernel_rfl)
abbrev yymy:Type 1:=List G_Spot→Int→Int→List G_Band→G_Spot→List G_Band→{R:Type}→(Int→Int→Int→List G_Band→G_Spot→List G_Band→Option R)→Option R
structure C_z18z where
 N:Nat
 z55z:yxiy
def z18z_L2 (g:C_z18z):Nat→List G_Spot→List G_Band→Int→Int→Int→Int→List G_Band→G_Spot→{R:Type}→(List G_Band→Int→Int→Int→List G_Band→G_Spot→Option R)→(List G_Band→Int→Int→List G_Band→G_Spot→Option R)→Option R
 | 0,_,_,_,_,_,_,_,_,_,_,_=>none
 | n + 1,v7,v8,v9,v10,v11,v12,v13,v14,_,e0,e1=>(bif (decide (v10 < v9)) then (get_ v7 v10 fun x21=>(g.z55z x21 v11 v12 v13 v14 v8 (fun r22 r23 r24 r25 r26=>(bif r22 then e0 v8 v10 r23 r24 r25 r26 else z18z_L2 g n v7 v8 v9 (w64 (v10 + 1)) r23 r24 r25 r26 e0 e1)))) else e1 v8 v11 v12 v13 v14)
def z18z_ (g:C_z18z) (a1:List G_Spot) (a2 a3:Int) (a4:List G_Band) (a5:G_Spot) (a6:List G_Band) {R:Type} (k0:Int→Int→Int→List G_Band→G_Spot→List G_Band→Option R):Option R :=
 (z18z_L2 g g.N a1 a6 (a1.length:Int) 0 a2 a3 a4 a5 (fun e27 e28 e29 e30 e31 e32=>k0 e28 e29 e30 e31 e32 e27) (fun e33 e34 e35 e36 e37=>k0 (-1) e34 e35 e36 e37 e33))
noncomputable def yfHy [Fuel]:C_z18z:=⟨NN,@z55z _⟩
noncomputable def z18z [Fuel]:yymy:=@z18z_ yfHy
def ypEy (g:yymy):Spec A:=fun args=>match args with | [.d (.sl 52 a1),.fn 82 [.box [.fn 80 [.cel [.int .i64 a2] 0,.cel [.int .i64 a3] 0,.cel [.sl 69 a4] 0]],.box [.d (.int .i64 a5),.d (.int .i64 a6),.d (.str a7),.d (.str a8)],.cel [.sl 69 a9] 0]]=>fun k=>g a1 a2 a3 a4 ⟨a5,a6,a7,a8⟩ a9 (fun z0 z1 z2 z3 z4 z5=>k (.d (.int .i64 z0)) [.undef,.fn 82 [.box [.fn 80 [.cel [.int .i64 z1] 0,.cel [.int .i64 z2] 0,.cel [.sl 69 z3] 0]],.box [.d (.int .i64 z4.f_At),.d (.int .i64 z4.f_Hertz),.d (.str z4.f_Call),.d (.str z4.f_By)],.cel [.sl 69 z5] 0]]) | _=>fun _=>none
def yloy:SSt:=mkSh 19 2 [(0,.sl 52),(1,.fn 82 [.ptr 0 0,.ptr 1 0,.cel [.sl 69] 0]),(7,.int .i64),(8,.int .i64)] [(0,.box [.fn 80 [.cel [.int .i64] 0,.cel [.int .i64] 0,.cel [.sl 69] 0]]),(1,.box [.int .i64,.int .i64,.str,.str])]
def yf1y (g:C_z18z) (n:Nat):LPT A:=fun ps=>match ps with | [.d (.sl 52 p1),.d (.sl 69 p2),.d (.int .i64 p3),.d (.int .i64 p4),.d (.int .i64 p5),.d (.int .i64 p6),.d (.sl 69 p7),.d (.int .i64 p8),.d (.int .i64 p9),.d (.str p10),.d (.str p11)]=>fun K=>z18z_L2 g n p1 p2 p3 p4 p5 p6 p7 ⟨p8,p9,p10,p11⟩ (fun z0 z1 z2 z3 z4 z5=>K .ret (mkSt 19 2 [(1,.fn 82 [.ptr 0 0,.ptr 1 0,.cel [.sl 69 z0] 0]),(4,.d (.int .i64 z1))] [(0,some (.box [.fn 80 [.cel [.int .i64 z2] 0,.cel [.int .i64 z3] 0,.cel [.sl 69 z4] 0]])),(1,some (.box [.d (.int .i64 z5.f_At),.d (.int .i64 z5.f_Hertz),.d (.str z5.f_Call),.d (.str z5.f_By)]))])) (fun z0 z1 z2 z3 z4=>K (.exit 0) (mkSt 19 2 [(1,.fn 82 [.ptr 0 0,.ptr 1 0,.cel [.sl 69 z0] 0])] [(0,some (.box [.fn 80 [.cel [.int .i64 z1] 0,.cel [.int .i64 z2] 0,.cel [.sl 69 z3] 0]])),(1,some (.box [.d (.int .i64 z4.f_At),.d (.int .i64 z4.f_Hertz),.d (.str z4.f_Call),.d (.str z4.f_By)]))])) | _=>fun _=>none
noncomputable def ygyy:Code:=(Tryz.f110.body).getD .skip
noncomputable def ytOy (g:C_z18z):Env A:=mkE [(82,ypOy g.z55z)] [] [(2,⟨[0,1,7,8],[],[0,1],[],[],[],[]⟩)] [(2,⟨[1,4],[],[0,1],[],[],[],[]⟩)] [(2,yaey yloy (yf1y g g.N))] [] [] [] [] [1]
theorem yMoy [Fuel]:yagy (ytOy yfHy).C:=ct_of (P:=Tryz.prog) (T:=T) (.cons yCPy .nil) (by kernel_rfl)
noncomputable def ytLy:Code:=sub [1,0,1,0,0] ygyy
theorem yF5y (g:C_z18z) (n:Nat):yahy (ytOy g) g.N ytLy yloy (yf1y g) n:=by intro ps; unfold yf1y; split; exact .inr fun R K=>(by kernel_rfl); exact .inl fun R K=>rfl
theorem yD0y [Fuel]:yacy (ytOy yfHy) NN ytLy:=yaby yloy (yf1y yfHy) (by kernel_rfl) yMoy (cuts0 (fun _=>rfl) (by kernel_rfl)) (fun ps R K=>by unfold yf1y; split <;> (try unfold z18z_L2) <;> rfl) (yF5y yfHy)
theorem yM2y (g:C_z18z):Same (ypEy (@z18z_ g)) (abody (ytOy g) Tryz.f110 ygyy 2 [0,1] [.asis] g.N):=by intro args; unfold ypEy; split; exact .inr fun R k=>(by kernel_rfl); exact .inl fun R k=>rfl
theorem yMDy [Fuel]:Ok 110 (ypEy (@z18z _)):=yaay std (.cons yCPy .nil) ⟨rfl,rfl,by kernel_rfl,rfl,rfl,rfl⟩ (yM2y yfHy) (cutsL (fun _=>rfl) (.cons yD0y .nil) (by kernel_rfl)) Tryz.func110 (by kernel_rfl) (by kernel_rfl)
abbrev yyxy:Type 1:=List G_Spot→Int→Int→List G_Band→G_Spot→List G_Band→{R:Type}→(Bool→Int→Int→List G_Band→G_Spot→List G_Band→Option R)→Option R
structure C_z38z where
 N:Nat
 z18z:yymy
def z38z_ (g:C_z38z) (a1:List G_Spot) (a2 a3:Int) (a4:List G_Band) (a5:G_Spot) (a6:List G_Band) {R:Type} (k0:Bool→Int→Int→List G_Band→G_Spot→List G_Band→Option R):Option R :=
 (g.z18z a1 a2 a3 a4 a5 a6 (fun r7 r8 r9 r10 r11 r12=>k0 (decide (r7 ≥ 0)) r8 r9 r10 r11 a6))
noncomputable def yFvy [Fuel]:C_z38z:=⟨NN,@z18z _⟩
noncomputable def z38z [Fuel]:yyxy:=@z38z_ yFvy
def ypvy (g:yyxy):Spec A:=fun args=>match args with | [.d (.sl 52 a1),.fn 82 [.box [.fn 80 [.cel [.int .i64 a2] 0,.cel [.int .i64 a3] 0,.cel [.sl 69 a4] 0]],.box [.d (.int .i64 a5),.d (.int .i64 a6),.d (.str a7),.d (.str a8)],.cel [.sl 69 a9] 0]]=>fun k=>g a1 a2 a3 a4 ⟨a5,a6,a7,a8⟩ a9 (fun z0 z1 z2 z3 z4 z5=>k (.d (.bool z0)) [.undef,.fn 82 [.box [.fn 80 [.cel [.int .i64 z1] 0,.cel [.int .i64 z2] 0,.cel [.sl 69 z3] 0]],.box [.d (.int .i64 z4.f_At),.d (.int .i64 z4.f_Hertz),.d (.str z4.f_Call),.d (.str z4.f_By)],.cel [.sl 69 z5] 0]]) | _=>fun _=>none
noncomputable def yKcy:Code:=(Tryz.f81.body).getD .skip
noncomputable def yPOy (g:C_z38z):Env A:=mkE [(110,ypEy g.z18z)] [] [] [] [] [] [] [] [(110,0)] [1]
theorem yLyy (g:C_z38z):Same (ypvy (@z38z_ g)) (abody (yPOy g) Tryz.f81 yKcy 2 [0,1] [.asis] g.N):=by intro args; unfold ypvy; split; exact .inr fun R k=>(by kernel_rfl); exact .inl fun R k=>rfl
theorem yCJy [Fuel]:Ok 81 (ypvy (@z38z _)):=yaay std (.cons yMDy .nil) ⟨rfl,rfl,by kernel_rfl,rfl,rfl,rfl⟩ (yLyy yFvy) (cuts0 (fun _=>rfl) (by kernel_rfl)) Tryz.func81 (by kernel_rfl) (by kernel_rfl)
abbrev ytJy:Type 1:=List G_Band→List G_Spot→Int→Int→{R:Type}→(List G_Spot→Option R)→Option R
structure C_z10z where
 N:Nat
 z73z:ytly
 z38z:yyxy
def z10z_L3 (g:C_z10z):Nat→List G_Spot→List G_Band→Int→Int→List G_Spot→Int→Int→List G_Spot→{R:Type}→(List G_Spot→Option R)→Option R
 | 0,_,_,_,_,_,_,_,_,_,_=>none
 | n + 1,v5,v6,v7,v8,v9,v10,v11,v12,_,e0=>(bif (decide (v11 < v10)) then (get_ v9 v11 fun x21=>(bif (decide (0≤(w64 (v11 + 1))) && decide ((w64 (v11 + 1))≤(v5.length:Int))) then (g.z38z (v5.drop ((w64 (v11 + 1)):Int).toNat) v8 v7 v6 x21 v6 (fun r22 r23 r24 r25 r26 r27=>(g.z73z r26 r23 r24 r25 (fun r28=>(bif r28 then (bif (!r22) then (bif (decide ((v12.length + [r26].length) * 48≤yazy)) then z10z_L3 g n v5 v6 v7 v8 v9 v10 (w64 (v11 + 1)) (v12 ++ [r26]) e0 else none) else z10z_L3 g n v5 v6 v7 v8 v9 v10 (w64 (v11 + 1)) v12 e0) else z10z_L3 g n v5 v6 v7 v8 v9 v10 (w64 (v11 + 1)) v12 e0))))) else none)) else e0 v12)
def z10z_ (g:C_z10z) (a1:List G_Band) (a2:List G_Spot) (a3 a4:Int) {R:Type} (k0:List G_Spot→Option R):Option R :=
 (z10z_L3 g g.N a2 a1 a3 a4 a2 (a2.length:Int) 0 [] (fun e29=>k0 e29))
noncomputable def yfYy [Fuel]:C_z10z:=⟨NN,@z73z _,@z38z _⟩
noncomputable def z10z [Fuel]:ytJy:=@z10z_ yfYy
def yj9y (g:ytJy):Spec A:=fun args=>match args with | [.d (.sl 69 a1),.d (.sl 52 a2),.d (.int .i64 a3),.d (.int .i64 a4)]=>fun k=>g a1 a2 a3 a4 (fun z0=>k (.arr 52 z0) [.undef,.undef,.undef,.undef]) | _=>fun _=>none
def yl1y:SSt:=mkSh 41 8 [(1,.sl 52),(4,.cel [.sl 69] 0),(6,.cel [.int .i64] 0),(7,.cel [.int .i64] 0),(9,.own 52 3),(14,.sl 52),(15,.int .i64),(16,.int .i64)] [(3,.row 52)]
def yfby (g:C_z10z) (n:Nat):LPT A:=fun ps=>match ps with | [.d (.sl 52 p1),.d (.sl 69 p2),.d (.int .i64 p3),.d (.int .i64 p4),.d (.sl 52 p5),.d (.int .i64 p6),.d (.int .i64 p7),.d (.sl 52 p8)]=>fun K=>z10z_L3 g n p1 p2 p3 p4 p5 p6 p7 p8 (fun z0=>K (.exit 0) (mkSt 41 8 [(9,.own 52 3)] [(3,some (.row 52 z0))])) | _=>fun _=>none
noncomputable def yCHy:Code:=(Tryz.f29.body).getD .skip
noncomputable def ytNy (g:C_z10z):Env A:=mkE [(80,yjKy g.z73z),(81,ypvy g.z38z)] [(4,[0]),(6,[1]),(7,[2]),(11,[4]),(12,[5]),(37,[6]),(38,[7])] [(3,⟨[1,4,6,7,9,14,15,16],[(9,52,3)],[],[],[],[],[0,1,2]⟩)] [(3,⟨[9],[],[3],[],[],[],[]⟩)] [(3,yaey yl1y (yfby g g.N))] [] [] [] [] []
theorem yLZy [Fuel]:yagy (ytNy yfYy).C:=ct_of (P:=Tryz.prog) (T:=T) (.cons yuLy (.cons yCJy .nil)) (by kernel_rfl)
noncomputable def ytgy:Code:=sub [1,1,0,1,0,0] yCHy
theorem yEPy (g:C_z10z) (n:Nat):yahy (ytNy g) g.N ytgy yl1y (yfby g) n:=by intro ps; unfold yfby; split; exact .inr fun R K=>(by kernel_rfl); exact .inl fun R K=>rfl
theorem yEgy [Fuel]:yacy (ytNy yfYy) NN ytgy:=yaby yl1y (yfby yfYy) (by kernel_rfl) yLZy (cuts0 (fun _=>rfl) (by kernel_rfl)) (fun ps R K=>by unfold yfby; split <;> (try unfold z10z_L3) <;> rfl) (yEPy yfYy)
theorem yNVy (g:C_z10z):Same (yj9y (@z10z_ g)) (abody (ytNy g) Tryz.f29 yCHy 8 [] [.arr 52] g.N):=by intro args; unfold yj9y; split; exact .inr fun R k=>(by kernel_rfl); exact .inl fun R k=>rfl
theorem yB2y [Fuel]:Ok 29 (yj9y (@z10z _)):=yaay std (.cons yuLy (.cons yCJy .nil)) ⟨rfl,rfl,by kernel_rfl,rfl,rfl,rfl⟩ (yNVy yfYy) (cutsL (fun _=>rfl) (.cons yEgy .nil) (by kernel_rfl)) Tryz.func29 (by kernel_rfl) (by kernel_rfl)
abbrev ykVy:Type 1:=List UInt8→{R:Type}→(List UInt8→Option R)→Option R
structure C_Q_BaseOf where
 N:Nat
 R_PartsOf:ygQy
def yu5y (g:C_Q_BaseOf) (a1:List UInt8) {R:Type} (k0:List UInt8→Option R):Option R :=
 (g.R_PartsOf a1 (fun r2 r3=>k0 r2.f_Base))
noncomputable def yrAy [Fuel]:C_Q_BaseOf:=⟨NN,@R_PartsOf _⟩
noncomputable def Q_BaseOf [Fuel]:ykVy:=@yu5y yrAy
def ygOy (g:ykVy):Spec A:=fun args=>match args with | [.d (.str a1)]=>fun k=>g a1 (fun z0=>k (.d (.str z0)) [.undef]) | _=>fun _=>none
noncomputable def yMey:Code:=(Tryz.f68.body).getD .skip
noncomputable def yEBy (g:C_Q_BaseOf):Env A:=mkE [(109,ydxy g.R_PartsOf)] [(3,[0])] [] [] [] [] [] [] [] []
theorem yA3y (g:C_Q_BaseOf):Same (ygOy (@yu5y g)) (abody (yEBy g) Tryz.f68 yMey 1 [] [.asis] g.N):=by intro args; unfold ygOy; split; exact .inr fun R k=>(by kernel_rfl); exact .inl fun R k=>rfl
theorem yqcy [Fuel]:Ok 68 (ygOy (@Q_BaseOf _)):=yaay std (.cons yncy .nil) ⟨rfl,rfl,by kernel_rfl,rfl,rfl,rfl⟩ (yA3y yrAy) (cuts0 (fun _=>rfl) (by kernel_rfl)) Tryz.func68 (by kernel_rfl) (by kernel_rfl)
abbrev yyXy:Type 1:=G_Contact→Int→Int→List G_Band→G_Spot→{R:Type}→(Bool→Int→Int→List G_Band→G_Spot→Option R)→Option R
structure C_z34z where
 N:Nat
 Q_BandAt:yf2y
 Q_BaseOf:ykVy
def z34z_ (g:C_z34z) (a1:G_Contact) (a2 a3:Int) (a4:List G_Band) (a5:G_Spot) {R:Type} (k0:Bool→Int→Int→List G_Band→G_Spot→Option R):Option R :=
 (bif (decide (a1.f_At≤a2)) then (bif (a1.f_Mode == a3) then (g.Q_BandAt a4 a5.f_Hertz (fun r6=>(bif (a1.f_Band == r6) then (g.Q_BaseOf a1.f_Call (fun r7=>(g.Q_BaseOf a5.f_Call (fun r8=>k0 (r7 == r8) a2 a3 a4 a5)))) else k0 false a2 a3 a4 a5))) else k0 false a2 a3 a4 a5) else k0 false a2 a3 a4 a5)
noncomputable def yxGy [Fuel]:C_z34z:=⟨NN,@Q_BandAt _,@Q_BaseOf _⟩
noncomputable def z34z [Fuel]:yyXy:=@z34z_ yxGy
def ypBy (g:yyXy):Spec A:=fun args=>match args with | [.agg [.d (.int .i64 a1),.d (.int .i64 a2),.d (.str a3),.d (.str a4),.d (.int .i64 a5),.d (.int .i64 a6),.d (.str a7),.d (.str a8)],.box [.d (.int .i64 a9)],.box [.d (.int .i64 a10)],.box [.d (.sl 69 a11)],.box [.d (.int .i64 a12),.d (.int .i64 a13),.d (.str a14),.d (.str a15)]]=>fun k=>g ⟨a1,a2,a3,a4,a5,a6,a7,a8⟩ a9 a10 a11 ⟨a12,a13,a14,a15⟩ (fun z0 z1 z2 z3 z4=>k (.d (.bool z0)) [.undef,.box [.d (.int .i64 z1)],.box [.d (.int .i64 z2)],.box [.d (.sl 69 z3)],.box [.d (.int .i64 z4.f_At),.d (.int .i64 z4.f_Hertz),.d (.str z4.f_Call),.d (.str z4.f_By)]]) | _=>fun _=>none
noncomputable def yKUy:Code:=(Tryz.f66.body).getD .skip
noncomputable def yPty (g:C_z34z):Env A:=mkE [(67,ydly g.Q_BandAt),(68,ygOy g.Q_BaseOf)] [(5,[4])] [] [] [] [] [] [] [] [1,2,3,4]
theorem yJ4y (g:C_z34z):Same (ypBy (@z34z_ g)) (abody (yPty g) Tryz.f66 yKUy 5 [0,1,2,3] [.asis] g.N):=by intro args; unfold ypBy; split; exact .inr fun R k=>(by kernel_rfl); exact .inl fun R k=>rfl
theorem yBry [Fuel]:Ok 66 (ypBy (@z34z _)):=yaay std (.cons yjDy (.cons yqcy .nil)) ⟨rfl,rfl,by kernel_rfl,rfl,rfl,rfl⟩ (yJ4y yxGy) (cuts0 (fun _=>rfl) (by kernel_rfl)) Tryz.func66 (by kernel_rfl) (by kernel_rfl)
end Go.Am
