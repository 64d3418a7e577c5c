/- The functions of the program as Lean functions, each shown to be what the code computes, part 10. No condition: lemmas for the claim. -/
import Derived.Test.YtnlblmnoiepeaaaGreatDoorF0
import Derived.Test.YtnlblmnoiepeaaaGreatDoorFSh
import Derived.Test.YtnlblmnoiepeaaaGreatDoorF1
import Derived.Test.YtnlblmnoiepeaaaGreatDoorF4
import Derived.Test.YtnlblmnoiepeaaaGreatDoorF5
import Derived.Test.YtnlblmnoiepeaaaGreatDoorF9
set_option linter.unusedVariables false
set_option maxRecDepth 100000
namespace Go.Am
open Go Go.Proofs
abbrev ywhy:Type 1:=List G_Row→{R:Type}→(List G_Row→Option R)→Option R
structure C_z20z where
 N:Nat
 z53z:yvzy
def z20z_L4 (g:C_z20z):Nat→Int→Int→List G_Row→List G_Row→{R:Type}→(List G_Row→Option R)→Option R
 | 0,_,_,_,_,_,_=>none
 | n + 1,v3,v4,v5,v6,_,e0=>(bif (decide (v4 < v3)) then (inr v5 v4 (at_ v5 v4 fun x11=>(bif (decide ((w64 ((v6.length:Int) - 1)) ≥ 0)) then (inr v6 (w64 ((v6.length:Int) - 1)) (at_ v6 (w64 ((v6.length:Int) - 1)) fun x12=>(bif (decide (x11.f_From≤x12.f_To)) then (inr v6 (w64 ((v6.length:Int) - 1)) (at_ v6 (w64 ((v6.length:Int) - 1)) fun x13=>(inr v6 (w64 ((v6.length:Int) - 1)) (at_ v6 (w64 ((v6.length:Int) - 1)) fun x14=>z20z_L4 g n v3 (w64 (v4 + 1)) v5 (set_ v6 (w64 ((v6.length:Int) - 1)) (⟨x14.f_From,(if x11.f_To > x13.f_To then x11.f_To else x13.f_To)⟩:G_Row)) e0)))) else (bif (decide ((v6.length + [x11].length) * 16≤yaly)) then z20z_L4 g n v3 (w64 (v4 + 1)) v5 (v6 ++ [x11]) e0 else none)))) else (bif (decide ((v6.length + [x11].length) * 16≤yaly)) then z20z_L4 g n v3 (w64 (v4 + 1)) v5 (v6 ++ [x11]) e0 else none)))) else e0 v6)
def z20z_ (g:C_z20z) (a1:List G_Row) {R:Type} (k0:List G_Row→Option R):Option R :=
 (g.z53z a1 (fun r2=>(z20z_L4 g g.N (r2.length:Int) 0 r2 [] (fun e15=>k0 e15))))
noncomputable def ycKy [Fuel]:C_z20z:=⟨NN,@z53z _⟩
noncomputable def z20z [Fuel]:ywhy:=@z20z_ ycKy
def ynOy (g:ywhy):Spec A:=fun args=>match args with | [.arr 165 a1]=>fun k=>g a1 (fun z0=>k (.arr 165 z0) [.undef]) | _=>fun _=>none
def ylWy:SSt:=mkSh 48 5 [(3,.own 165 1),(9,.own 165 0),(10,.int .i64),(11,.int .i64)] [(0,.row 165),(1,.row 165)]
def yeZy (g:C_z20z) (n:Nat):LPT A:=fun ps=>match ps with | [.d (.int .i64 p1),.d (.int .i64 p2),.d (.sl 165 p3),.d (.sl 165 p4)]=>fun K=>z20z_L4 g n p1 p2 p3 p4 (fun z0=>K (.exit 0) (mkSt 48 5 [(3,.own 165 1)] [(1,some (.row 165 z0))])) | _=>fun _=>none
noncomputable def yx8y:Code:=(Tryz.f153.body).getD .skip
noncomputable def yrcy (g:C_z20z):Env A:=mkE [(189,yjOy g.z53z)] [(5,[2]),(44,[3]),(45,[4])] [(4,⟨[3,9,10,11],[(3,165,1)],[0],[],[],[],[]⟩)] [(4,⟨[3],[],[1],[],[],[],[]⟩)] [(4,yafy ylWy (yeZy g g.N))] [] [] [] [(189,0)] []
theorem yMTy [Fuel]:yahy (yrcy ycKy).C:=ct_of (P:=Tryz.prog) (T:=T) (.cons yBjy .nil) (by kernel_rfl)
noncomputable def ysCy:Code:=sub [1,1,1,0,1,0,0] yx8y
theorem yD2y (g:C_z20z) (n:Nat):yaky (yrcy g) g.N ysCy ylWy (yeZy g) n:=by intro ps; unfold yeZy; split; exact .inr fun R K=>(by kernel_rfl); exact .inl fun R K=>rfl
theorem yCSy [Fuel]:yacy (yrcy ycKy) NN ysCy:=yaey ylWy (yeZy ycKy) (by kernel_rfl) yMTy (cuts0 (fun _=>rfl) (by kernel_rfl)) (fun ps R K=>by unfold yeZy; split <;> (try unfold z20z_L4) <;> rfl) (yD2y ycKy)
theorem yL3y (g:C_z20z):Same (ynOy (@z20z_ g)) (abody (yrcy g) Tryz.f153 yx8y 5 [0] [.arr 165] g.N):=by intro args; unfold ynOy; split; exact .inr fun R k=>(by kernel_rfl); exact .inl fun R k=>rfl
theorem yBAy [Fuel]:Ok 153 (ynOy (@z20z _)):=yaay std (.cons yBjy .nil) ⟨rfl,rfl,by kernel_rfl,rfl,rfl,rfl⟩ (yL3y ycKy) (cutsL (fun _=>rfl) (.cons yCSy .nil) (by kernel_rfl)) Tryz.func153 (by kernel_rfl) (by kernel_rfl)
abbrev yyMy:Type 1:=List G_Segment→List UInt8→Int→Int→{R:Type}→(List G_Row→Option R)→Option R
structure C_z44z where
 N:Nat
 z67z:ywry
 kit_Has:ynry
 z20z:ywhy
def z44z_L3 (g:C_z44z):Nat→List UInt8→Int→Int→List G_Segment→Int→Int→List G_Row→{R:Type}→(List G_Row→Option R)→Option R
 | 0,_,_,_,_,_,_,_,_,_=>none
 | n + 1,v5,v6,v7,v8,v9,v10,v11,_,e0=>(bif (decide (v10 < v9)) then (get_ v8 v10 fun x16=>(bif (x16.f_Class == v5) then (bif (v6 == 0) then (g.kit_Has x16.f_Time v7 (fun r17=>(bif r17 then (bif (decide ((v11.length + [(⟨x16.f_Low,x16.f_High⟩:G_Row)].length) * 16≤yaly)) then z44z_L3 g n v5 v6 v7 v8 v9 (w64 (v10 + 1)) (v11 ++ [(⟨x16.f_Low,x16.f_High⟩:G_Row)]) e0 else none) else z44z_L3 g n v5 v6 v7 v8 v9 (w64 (v10 + 1)) v11 e0))) else (g.z67z x16.f_Modes v6 (fun r18=>(bif r18 then (g.kit_Has x16.f_Time v7 (fun r19=>(bif r19 then (bif (decide ((v11.length + [(⟨x16.f_Low,x16.f_High⟩:G_Row)].length) * 16≤yaly)) then z44z_L3 g n v5 v6 v7 v8 v9 (w64 (v10 + 1)) (v11 ++ [(⟨x16.f_Low,x16.f_High⟩:G_Row)]) e0 else none) else z44z_L3 g n v5 v6 v7 v8 v9 (w64 (v10 + 1)) v11 e0))) else z44z_L3 g n v5 v6 v7 v8 v9 (w64 (v10 + 1)) v11 e0)))) else z44z_L3 g n v5 v6 v7 v8 v9 (w64 (v10 + 1)) v11 e0)) else e0 v11)
def z44z_ (g:C_z44z) (a1:List G_Segment) (a2:List UInt8) (a3 a4:Int) {R:Type} (k0:List G_Row→Option R):Option R :=
 (z44z_L3 g g.N a2 a3 a4 a1 (a1.length:Int) 0 [] (fun e20=>(g.z20z e20 (fun r21=>k0 r21))))
noncomputable def yday [Fuel]:C_z44z:=⟨NN,@z67z _,@kit_Has _,@z20z _⟩
noncomputable def z44z [Fuel]:yyMy:=@z44z_ yday
def ynUy (g:yyMy):Spec A:=fun args=>match args with | [.d (.sl 109 a1),.d (.str a2),.d (.int .i64 a3),.d (.int .i64 a4)]=>fun k=>g a1 a2 a3 a4 (fun z0=>k (.arr 165 z0) [.undef,.undef,.undef,.undef]) | _=>fun _=>none
def yk0y:SSt:=mkSh 49 5 [(1,.str),(2,.int .i64),(3,.int .i64),(9,.own 165 0),(12,.sl 109),(13,.int .i64),(14,.int .i64)] [(0,.row 165)]
def yfMy (g:C_z44z) (n:Nat):LPT A:=fun ps=>match ps with | [.d (.str p1),.d (.int .i64 p2),.d (.int .i64 p3),.d (.sl 109 p4),.d (.int .i64 p5),.d (.int .i64 p6),.d (.sl 165 p7)]=>fun K=>z44z_L3 g n p1 p2 p3 p4 p5 p6 p7 (fun z0=>K (.exit 0) (mkSt 49 5 [(9,.own 165 0)] [(0,some (.row 165 z0))])) | _=>fun _=>none
noncomputable def ywTy:Code:=(Tryz.f109.body).getD .skip
noncomputable def yrGy (g:C_z44z):Env A:=mkE [(15,youy g.z67z),(152,yhFy g.kit_Has),(153,ynOy g.z20z)] [(11,[1]),(44,[2]),(45,[3]),(48,[4])] [(3,⟨[1,2,3,9,12,13,14],[(9,165,0)],[],[],[],[],[]⟩)] [(3,⟨[9],[],[0],[],[],[],[]⟩)] [(3,yafy yk0y (yfMy g g.N))] [] [] [] [(153,0)] []
theorem yKvy [Fuel]:yahy (yrGy yday).C:=ct_of (P:=Tryz.prog) (T:=T) (.cons yA3y (.cons ysUy (.cons yBAy .nil))) (by kernel_rfl)
noncomputable def yqUy:Code:=sub [1,1,0,1,0,0] ywTy
theorem yF0y (g:C_z44z) (n:Nat):yaky (yrGy g) g.N yqUy yk0y (yfMy g) n:=by intro ps; unfold yfMy; split; exact .inr fun R K=>(by kernel_rfl); exact .inl fun R K=>rfl
theorem yDzy [Fuel]:yacy (yrGy yday) NN yqUy:=yaey yk0y (yfMy yday) (by kernel_rfl) yKvy (cuts0 (fun _=>rfl) (by kernel_rfl)) (fun ps R K=>by unfold yfMy; split <;> (try unfold z44z_L3) <;> rfl) (yF0y yday)
theorem yLuy (g:C_z44z):Same (ynUy (@z44z_ g)) (abody (yrGy g) Tryz.f109 ywTy 5 [] [.arr 165] g.N):=by intro args; unfold ynUy; split; exact .inr fun R k=>(by kernel_rfl); exact .inl fun R k=>rfl
theorem yKDy [Fuel]:Ok 109 (ynUy (@z44z _)):=yaay std (.cons yA3y (.cons ysUy (.cons yBAy .nil))) ⟨rfl,rfl,by kernel_rfl,rfl,rfl,rfl⟩ (yLuy yday) (cutsL (fun _=>rfl) (.cons yDzy .nil) (by kernel_rfl)) Tryz.func109 (by kernel_rfl) (by kernel_rfl)
abbrev yivy:Type 1:=G_Row→G_Row→{R:Type}→(Bool→G_Row→Option R)→Option R
def yjqy (g:Nat) (a1 a2:G_Row) {R:Type} (k0:Bool→G_Row→Option R):Option R :=
 (bif (decide (a1.f_From≤a2.f_From)) then k0 (decide (a2.f_To≤a1.f_To)) a2 else k0 false a2)
noncomputable def band_May_1 [Fuel]:yivy:=@yjqy NN
def yely (g:yivy):Spec A:=fun args=>match args with | [.agg [.d (.int .i64 a1),.d (.int .i64 a2)],.box [.d (.int .i64 a3),.d (.int .i64 a4)]]=>fun k=>g ⟨a1,a2⟩ ⟨a3,a4⟩ (fun z0 z1=>k (.d (.bool z0)) [.undef,.box [.d (.int .i64 z1.f_From),.d (.int .i64 z1.f_To)]]) | _=>fun _=>none
noncomputable def yHiy:Code:=(Tryz.f110.body).getD .skip
noncomputable def ywLy (g:Nat):Env A:=mkE [] [(2,[1])] [] [] [] [] [] [] [] [1]
theorem yu9y (g:Nat):Same (yely (@yjqy g)) (abody (ywLy g) Tryz.f110 yHiy 2 [0] [.asis] g):=by intro args; unfold yely; split; exact .inr fun R k=>(by kernel_rfl); exact .inl fun R k=>rfl
theorem ymny [Fuel]:Ok 110 (yely (@band_May_1 _)):=yaay std .nil ⟨rfl,rfl,by kernel_rfl,rfl,rfl,rfl⟩ (yu9y NN) (cuts0 (fun _=>rfl) (by kernel_rfl)) Tryz.func110 (by kernel_rfl) (by kernel_rfl)
abbrev yxLy:Type 1:=List G_Row→G_Row→{R:Type}→(Int→G_Row→Option R)→Option R
structure C_z13z where
 N:Nat
 band_May_1:yivy
def z13z_L2 (g:C_z13z):Nat→List G_Row→Int→Int→G_Row→{R:Type}→(Int→G_Row→Option R)→(G_Row→Option R)→Option R
 | 0,_,_,_,_,_,_,_=>none
 | n + 1,v3,v4,v5,v6,_,e0,e1=>(bif (decide (v5 < v4)) then (get_ v3 v5 fun x10=>(g.band_May_1 x10 v6 (fun r11 r12=>(bif r11 then e0 v5 r12 else z13z_L2 g n v3 v4 (w64 (v5 + 1)) r12 e0 e1)))) else e1 v6)
def z13z_ (g:C_z13z) (a1:List G_Row) (a2:G_Row) {R:Type} (k0:Int→G_Row→Option R):Option R :=
 (z13z_L2 g g.N a1 (a1.length:Int) 0 a2 (fun e13 e14=>k0 e13 e14) (fun e15=>k0 (-1) e15))
noncomputable def yijy [Fuel]:C_z13z:=⟨NN,@band_May_1 _⟩
noncomputable def z13z [Fuel]:yxLy:=@z13z_ yijy
def yoly (g:yxLy):Spec A:=fun args=>match args with | [.d (.sl 165 a1),.fn 110 [.box [.d (.int .i64 a2),.d (.int .i64 a3)]]]=>fun k=>g a1 ⟨a2,a3⟩ (fun z0 z1=>k (.d (.int .i64 z0)) [.undef,.fn 110 [.box [.d (.int .i64 z1.f_From),.d (.int .i64 z1.f_To)]]]) | _=>fun _=>none
def yk9y:SSt:=mkSh 19 1 [(0,.sl 165),(1,.fn 110 [.ptr 0 0]),(7,.int .i64),(8,.int .i64)] [(0,.box [.int .i64,.int .i64])]
def yfOy (g:C_z13z) (n:Nat):LPT A:=fun ps=>match ps with | [.d (.sl 165 p1),.d (.int .i64 p2),.d (.int .i64 p3),.d (.int .i64 p4),.d (.int .i64 p5)]=>fun K=>z13z_L2 g n p1 p2 p3 ⟨p4,p5⟩ (fun z0 z1=>K .ret (mkSt 19 1 [(1,.fn 110 [.ptr 0 0]),(4,.d (.int .i64 z0))] [(0,some (.box [.d (.int .i64 z1.f_From),.d (.int .i64 z1.f_To)]))])) (fun z0=>K (.exit 0) (mkSt 19 1 [(1,.fn 110 [.ptr 0 0])] [(0,some (.box [.d (.int .i64 z0.f_From),.d (.int .i64 z0.f_To)]))])) | _=>fun _=>none
noncomputable def yyiy:Code:=(Tryz.f151.body).getD .skip
noncomputable def yq7y (g:C_z13z):Env A:=mkE [(110,yely g.band_May_1)] [] [(2,⟨[0,1,7,8],[],[0],[],[],[],[]⟩)] [(2,⟨[1,4],[],[0],[],[],[],[]⟩)] [(2,yafy yk9y (yfOy g g.N))] [] [] [] [] [1]
theorem yKcy [Fuel]:yahy (yq7y yijy).C:=ct_of (P:=Tryz.prog) (T:=T) (.cons ymny .nil) (by kernel_rfl)
noncomputable def yq4y:Code:=sub [1,0,1,0,0] yyiy
theorem yD0y (g:C_z13z) (n:Nat):yaky (yq7y g) g.N yq4y yk9y (yfOy g) n:=by intro ps; unfold yfOy; split; exact .inr fun R K=>(by kernel_rfl); exact .inl fun R K=>rfl
theorem yCMy [Fuel]:yacy (yq7y yijy) NN yq4y:=yaey yk9y (yfOy yijy) (by kernel_rfl) yKcy (cuts0 (fun _=>rfl) (by kernel_rfl)) (fun ps R K=>by unfold yfOy; split <;> (try unfold z13z_L2) <;> rfl) (yD0y yijy)
theorem yNcy (g:C_z13z):Same (yoly (@z13z_ g)) (abody (yq7y g) Tryz.f151 yyiy 1 [0] [.asis] g.N):=by intro args; unfold yoly; split; exact .inr fun R k=>(by kernel_rfl); exact .inl fun R k=>rfl
theorem yKEy [Fuel]:Ok 151 (yoly (@z13z _)):=yaay std (.cons ymny .nil) ⟨rfl,rfl,by kernel_rfl,rfl,rfl,rfl⟩ (yNcy yijy) (cutsL (fun _=>rfl) (.cons yCMy .nil) (by kernel_rfl)) Tryz.func151 (by kernel_rfl) (by kernel_rfl)
abbrev yzjy:Type 1:=List G_Row→G_Row→{R:Type}→(Bool→G_Row→Option R)→Option R
structure C_z43z where
 N:Nat
 z13z:yxLy
def z43z_ (g:C_z43z) (a1:List G_Row) (a2:G_Row) {R:Type} (k0:Bool→G_Row→Option R):Option R :=
 (g.z13z a1 a2 (fun r3 r4=>k0 (decide (r3 ≥ 0)) r4))
noncomputable def yxNy [Fuel]:C_z43z:=⟨NN,@z13z _⟩
noncomputable def z43z [Fuel]:yzjy:=@z43z_ yxNy
def ynYy (g:yzjy):Spec A:=fun args=>match args with | [.d (.sl 165 a1),.fn 110 [.box [.d (.int .i64 a2),.d (.int .i64 a3)]]]=>fun k=>g a1 ⟨a2,a3⟩ (fun z0 z1=>k (.d (.bool z0)) [.undef,.fn 110 [.box [.d (.int .i64 z1.f_From),.d (.int .i64 z1.f_To)]]]) | _=>fun _=>none
noncomputable def yGPy:Code:=(Tryz.f108.body).getD .skip
noncomputable def yNpy (g:C_z43z):Env A:=mkE [(151,yoly g.z13z)] [] [] [] [] [] [] [] [(151,0)] [1]
theorem yL0y (g:C_z43z):Same (ynYy (@z43z_ g)) (abody (yNpy g) Tryz.f108 yGPy 1 [0] [.asis] g.N):=by intro args; unfold ynYy; split; exact .inr fun R k=>(by kernel_rfl); exact .inl fun R k=>rfl
theorem yMhy [Fuel]:Ok 108 (ynYy (@z43z _)):=yaay std (.cons yKEy .nil) ⟨rfl,rfl,by kernel_rfl,rfl,rfl,rfl⟩ (yL0y yxNy) (cuts0 (fun _=>rfl) (by kernel_rfl)) Tryz.func108 (by kernel_rfl) (by kernel_rfl)
abbrev ykPy:Type 1:=List G_Segment→List UInt8→Int→Int→Int→Int→{R:Type}→(Bool→Int→Option R)→Option R
structure C_band_May where
 N:Nat
 kit_IsMode:ycNy
 z45z:ycHy
 z62z:yhpy
 kit_IsKey:ybry
 z31z:yxey
 band_used:yjpy
 z43z:yzjy
 z44z:yyMy
def ymFy (g:C_band_May) (a1:List G_Segment) (a2:List UInt8) (a3 a4 a5 a6:Int) {R:Type} (k0:Bool→Int→Option R):Option R :=
 (g.z31z a1 (fun r7=>(bif (r7 != 0) then k0 false r7 else (g.kit_IsKey a2 (fun r8=>(bif (!r8) then k0 false 5 else (g.z45z a3 0 30000000000 (fun r9=>(bif r9 then k0 false 1 else (g.z45z a4 1 100000 (fun r10=>(bif r10 then k0 false 1 else (g.kit_IsMode a5 (fun r11=>(bif (!r11) then k0 false 4 else (g.z62z a6 (fun r12=>(bif (!r12) then k0 false 1 else (g.band_used a3 a4 (fun r13=>(g.z44z a1 a2 a5 a6 (fun r14=>(g.z43z r14 r13 (fun r15 r16=>k0 r15 0))))))))))))))))))))))))
noncomputable def ylsy [Fuel]:C_band_May:=⟨NN,@kit_IsMode _,@z45z _,@z62z _,@kit_IsKey _,@z31z _,@band_used _,@z43z _,@z44z _⟩
noncomputable def band_May [Fuel]:ykPy:=@ymFy ylsy
def ygMy (g:ykPy):Spec A:=fun args=>match args with | [.d (.sl 109 a1),.d (.str a2),.d (.int .i64 a3),.d (.int .i64 a4),.d (.int .i64 a5),.d (.int .i64 a6)]=>fun k=>g a1 a2 a3 a4 a5 a6 (fun z0 z1=>k (.tup [.d (.bool z0),.d (.int .i64 z1)]) [.undef,.undef,.undef,.undef,.undef,.undef]) | _=>fun _=>none
noncomputable def yJuy:Code:=(Tryz.f54.body).getD .skip
noncomputable def yCWy (g:C_band_May):Env A:=mkE [(33,yb0y g.kit_IsMode),(42,ybWy g.z45z),(74,ydKy g.z62z),(80,ya2y g.kit_IsKey),(106,yoPy g.z31z),(107,yeVy g.band_used),(108,ynYy g.z43z),(109,ynUy g.z44z)] [(15,[0]),(47,[1])] [] [] [] [] [] [] [] []
theorem yAcy (g:C_band_May):Same (ygMy (@ymFy g)) (abody (yCWy g) Tryz.f54 yJuy 2 [] [.asis,.asis] g.N):=by intro args; unfold ygMy; split; exact .inr fun R k=>(by kernel_rfl); exact .inl fun R k=>rfl
theorem yzIy [Fuel]:Ok 54 (ygMy (@band_May _)):=yaay std (.cons ycjy (.cons ybZy (.cons ygdy (.cons yaKy (.cons yJxy (.cons ywZy (.cons yMhy (.cons yKDy .nil)))))))) ⟨rfl,rfl,by kernel_rfl,rfl,rfl,rfl⟩ (yAcy ylsy) (cuts0 (fun _=>rfl) (by kernel_rfl)) Tryz.func54 (by kernel_rfl) (by kernel_rfl)
abbrev yzmy:Type 1:=List UInt8→{R:Type}→(Bool→Option R)→Option R
def z68z_L4 (g:Nat):Nat→List UInt8→Int→Int→{R:Type}→(Bool→Option R)→Option R→Option R
 | 0,_,_,_,_,_,_=>none
 | n + 1,v2,v3,v4,_,e0,e1=>(bif (decide (v4 < v3)) then (bif ((w64 (Int.tdiv v4 2)) == 1) then (get_ v2 v4 fun x11=>(bif (decide ((x11.toNat:Int) < 48)) then e0 false else (get_ v2 v4 fun x12=>(bif (decide ((x12.toNat:Int) > 57)) then e0 false else z68z_L4 g n v2 v3 (w64 (v4 + 1)) e0 e1)))) else (bif ((w64 (Int.tdiv v4 2)) == 2) then (get_ v2 v4 fun x13=>(bif (decide ((x13.toNat:Int) < 97)) then e0 false else (get_ v2 v4 fun x14=>(bif (decide ((x14.toNat:Int) > 120)) then e0 false else z68z_L4 g n v2 v3 (w64 (v4 + 1)) e0 e1)))) else (get_ v2 v4 fun x15=>(bif (decide ((x15.toNat:Int) < 97)) then e0 false else (get_ v2 v4 fun x16=>(bif (decide ((x16.toNat:Int) > 114)) then e0 false else z68z_L4 g n v2 v3 (w64 (v4 + 1)) e0 e1)))))) else e1)
def z68z_ (g:Nat) (a1:List UInt8) {R:Type} (k0:Bool→Option R):Option R :=
 (bif ((a1.length:Int) != 2) then (bif ((a1.length:Int) != 4) then (bif ((a1.length:Int) != 6) then k0 false else (z68z_L4 g g a1 (a1.length:Int) 0 (fun e17=>k0 e17) (k0 true))) else (z68z_L4 g g a1 (a1.length:Int) 0 (fun e18=>k0 e18) (k0 true))) else (z68z_L4 g g a1 (a1.length:Int) 0 (fun e19=>k0 e19) (k0 true)))
noncomputable def z68z [Fuel]:yzmy:=@z68z_ NN
def yocy (g:yzmy):Spec A:=fun args=>match args with | [.d (.str a1)]=>fun k=>g a1 (fun z0=>k (.d (.bool z0)) [.undef]) | _=>fun _=>none
def ykUy:SSt:=mkSh 43 0 [(0,.str),(20,.int .i64),(21,.int .i64)] []
def yfHy (g:Nat) (n:Nat):LPT A:=fun ps=>match ps with | [.d (.str p1),.d (.int .i64 p2),.d (.int .i64 p3)]=>fun K=>z68z_L4 g n p1 p2 p3 (fun z0=>K .ret (mkSt 43 0 [(2,.d (.bool z0))] [])) (K (.exit 0) (mkSt 43 0 [] [])) | _=>fun _=>none
noncomputable def yvYy:Code:=(Tryz.f177.body).getD .skip
noncomputable def yrmy (g:Nat):Env A:=mkE [] [] [(4,⟨[0,20,21],[],[],[],[],[],[]⟩)] [(4,⟨[2],[],[],[],[],[],[]⟩)] [(4,yafy ykUy (yfHy g g))] [] [] [] [] []
theorem yMny [Fuel]:yahy (yrmy NN).C:=ct_of (P:=Tryz.prog) (T:=T) .nil (by kernel_rfl)
noncomputable def ysQy:Code:=sub [1,1,0,1,0,0] yvYy
theorem yE9y (g:Nat) (n:Nat):yaky (yrmy g) g ysQy ykUy (yfHy g) n:=by intro ps; unfold yfHy; split; exact .inr fun R K=>(by kernel_rfl); exact .inl fun R K=>rfl
theorem yCTy [Fuel]:yacy (yrmy NN) NN ysQy:=yaey ykUy (yfHy NN) (by kernel_rfl) yMny (cuts0 (fun _=>rfl) (by kernel_rfl)) (fun ps R K=>by unfold yfHy; split <;> (try unfold z68z_L4) <;> rfl) (yE9y NN)
theorem yKoy (g:Nat):Same (yocy (@z68z_ g)) (abody (yrmy g) Tryz.f177 yvYy 0 [] [.asis] g):=by intro args; unfold yocy; split; exact .inr fun R k=>(by kernel_rfl); exact .inl fun R k=>rfl
theorem yLcy [Fuel]:Ok 177 (yocy (@z68z _)):=yaay std .nil ⟨rfl,rfl,by kernel_rfl,rfl,rfl,rfl⟩ (yKoy NN) (cutsL (fun _=>rfl) (.cons yCTy .nil) (by kernel_rfl)) Tryz.func177 (by kernel_rfl) (by kernel_rfl)
abbrev yvNy:Type 1:=List UInt8→{R:Type}→(Bool→Option R)→Option R
structure C_z95z where
 N:Nat
 z68z:yzmy
def z95z_ (g:C_z95z) (a1:List UInt8) {R:Type} (k0:Bool→Option R):Option R :=
 (bif ((a1.length:Int) == 6) then (g.z68z a1 (fun r2=>k0 r2)) else k0 false)
noncomputable def yETy [Fuel]:C_z95z:=⟨NN,@z68z _⟩
noncomputable def z95z [Fuel]:yvNy:=@z95z_ yETy
def yoXy (g:yvNy):Spec A:=fun args=>match args with | [.d (.str a1)]=>fun k=>g a1 (fun z0=>k (.d (.bool z0)) [.undef]) | _=>fun _=>none
noncomputable def yGVy:Code:=(Tryz.f132.body).getD .skip
noncomputable def yOuy (g:C_z95z):Env A:=mkE [(177,yocy g.z68z)] [] [] [] [] [] [] [] [] []
theorem yLFy (g:C_z95z):Same (yoXy (@z95z_ g)) (abody (yOuy g) Tryz.f132 yGVy 0 [] [.asis] g.N):=by intro args; unfold yoXy; split; exact .inr fun R k=>(by kernel_rfl); exact .inl fun R k=>rfl
theorem yAyy [Fuel]:Ok 132 (yoXy (@z95z _)):=yaay std (.cons yLcy .nil) ⟨rfl,rfl,by kernel_rfl,rfl,rfl,rfl⟩ (yLFy yETy) (cuts0 (fun _=>rfl) (by kernel_rfl)) Tryz.func132 (by kernel_rfl) (by kernel_rfl)
abbrev ywJy:Type 1:=List G_Entrant→{R:Type}→(Int→Option R)→Option R
structure C_z40z where
 N:Nat
 z45z:ycHy
 kit_IsKey:ybry
 strings_Compare:ybay
 call_Is:yhfy
 z35z:yhay
 z95z:yvNy
def z40z_L4 (g:C_z40z):Nat→List G_Entrant→List G_Entrant→Int→Int→{R:Type}→(Int→Option R)→Option R→Option R
 | 0,_,_,_,_,_,_,_=>none
 | n + 1,v2,v3,v4,v5,_,e0,e1=>(bif (decide (v5 < v4)) then (get_ v3 v5 fun x21=>(g.call_Is x21.f_Call (fun r22=>(bif (!r22) then e0 3 else (g.kit_IsKey x21.f_Category (fun r23=>(bif (!r23) then e0 5 else (g.z45z x21.f_Points 0 1000000000000 (fun r24=>(bif r24 then e0 1 else (bif (!(x21.f_Locator == [])) then (g.z95z x21.f_Locator (fun r25=>(bif (!r25) then e0 3 else (bif (decide (v5 > 0)) then (get_ v2 (w64 (v5 - 1)) fun x26=>(get_ v2 (w64 (v5 - 1)) fun x27=>(g.strings_Compare x26.f_Category x21.f_Category (fun r28=>(g.strings_Compare x27.f_Call x21.f_Call (fun r29=>(g.z35z [r28,r29] (fun r30=>(bif (decide (r30 ≥ 0)) then e0 7 else z40z_L4 g n v2 v3 v4 (w64 (v5 + 1)) e0 e1))))))))) else z40z_L4 g n v2 v3 v4 (w64 (v5 + 1)) e0 e1)))) else (bif (decide (v5 > 0)) then (get_ v2 (w64 (v5 - 1)) fun x31=>(get_ v2 (w64 (v5 - 1)) fun x32=>(g.strings_Compare x31.f_Category x21.f_Category (fun r33=>(g.strings_Compare x32.f_Call x21.f_Call (fun r34=>(g.z35z [r33,r34] (fun r35=>(bif (decide (r35 ≥ 0)) then e0 7 else z40z_L4 g n v2 v3 v4 (w64 (v5 + 1)) e0 e1))))))))) else z40z_L4 g n v2 v3 v4 (w64 (v5 + 1)) e0 e1)))))))))))) else e1)
def z40z_ (g:C_z40z) (a1:List G_Entrant) {R:Type} (k0:Int→Option R):Option R :=
 (bif (decide ((a1.length:Int) > 500)) then k0 2 else (z40z_L4 g g.N a1 a1 (a1.length:Int) 0 (fun e36=>k0 e36) (k0 0)))
noncomputable def ykqy [Fuel]:C_z40z:=⟨NN,@z45z _,@kit_IsKey _,@strings_Compare _,@call_Is _,@z35z _,@z95z _⟩
noncomputable def z40z [Fuel]:ywJy:=@z40z_ ykqy
def yo4y (g:ywJy):Spec A:=fun args=>match args with | [.d (.sl 88 a1)]=>fun k=>g a1 (fun z0=>k (.d (.int .i64 z0)) [.undef]) | _=>fun _=>none
def yldy:SSt:=mkSh 66 2 [(0,.sl 88),(8,.sl 88),(9,.int .i64),(10,.int .i64)] []
def ye0y (g:C_z40z) (n:Nat):LPT A:=fun ps=>match ps with | [.d (.sl 88 p1),.d (.sl 88 p2),.d (.int .i64 p3),.d (.int .i64 p4)]=>fun K=>z40z_L4 g n p1 p2 p3 p4 (fun z0=>K .ret (mkSt 66 2 [(2,.d (.int .i64 z0))] [])) (K (.exit 0) (mkSt 66 2 [] [])) | _=>fun _=>none
noncomputable def yBly:Code:=(Tryz.f85.body).getD .skip
noncomputable def yrWy (g:C_z40z):Env A:=mkE [(42,ybWy g.z45z),(80,ya2y g.kit_IsKey),(116,yaGy g.strings_Compare),(118,ydPy g.call_Is),(121,ybVy g.z35z),(132,yoXy g.z95z)] [(4,[0]),(61,[1])] [(4,⟨[0,8,9,10],[],[],[],[],[],[]⟩)] [(4,⟨[2],[],[],[],[],[],[]⟩)] [(4,yafy yldy (ye0y g g.N))] [] [] [] [] []
theorem yL2y [Fuel]:yahy (yrWy ykqy).C:=ct_of (P:=Tryz.prog) (T:=T) (.cons ybZy (.cons yaKy (.cons ybiy (.cons ydFy (.cons ygcy (.cons yAyy .nil)))))) (by kernel_rfl)
noncomputable def yrqy:Code:=sub [1,1,0,1,0,0] yBly
theorem yEDy (g:C_z40z) (n:Nat):yaky (yrWy g) g.N yrqy yldy (ye0y g) n:=by intro ps; unfold ye0y; split; exact .inr fun R K=>(by kernel_rfl); exact .inl fun R K=>rfl
theorem yDty [Fuel]:yacy (yrWy ykqy) NN yrqy:=yaey yldy (ye0y ykqy) (by kernel_rfl) yL2y (cuts0 (fun _=>rfl) (by kernel_rfl)) (fun ps R K=>by unfold ye0y; split <;> (try unfold z40z_L4) <;> rfl) (yEDy ykqy)
theorem yMPy (g:C_z40z):Same (yo4y (@z40z_ g)) (abody (yrWy g) Tryz.f85 yBly 2 [] [.asis] g.N):=by intro args; unfold yo4y; split; exact .inr fun R k=>(by kernel_rfl); exact .inl fun R k=>rfl
theorem yBny [Fuel]:Ok 85 (yo4y (@z40z _)):=yaay std (.cons ybZy (.cons yaKy (.cons ybiy (.cons ydFy (.cons ygcy (.cons yAyy .nil)))))) ⟨rfl,rfl,by kernel_rfl,rfl,rfl,rfl⟩ (yMPy ykqy) (cutsL (fun _=>rfl) (.cons yDty .nil) (by kernel_rfl)) Tryz.func85 (by kernel_rfl) (by kernel_rfl)
abbrev yFZy:Type 1:=G_Place→G_Place→{R:Type}→(Int→Option R)→Option R
structure C_z55z where
 N:Nat
 strings_Compare:ybay
 z35z:yhay
 z25z:yhey
def z55z_ (g:C_z55z) (a1 a2:G_Place) {R:Type} (k0:Int→Option R):Option R :=
 (g.z25z a2.f_Points a1.f_Points (fun r3=>(g.strings_Compare a1.f_Key a2.f_Key (fun r4=>(g.z35z [r3,r4] (fun r5=>k0 r5))))))
noncomputable def yxVy [Fuel]:C_z55z:=⟨NN,@strings_Compare _,@z35z _,@z25z _⟩
noncomputable def z55z [Fuel]:yFZy:=@z55z_ yxVy
def ygqy (g:yFZy):Spec A:=fun args=>match args with | [.agg [.d (.int .i64 a1),.d (.int .i64 a2),.d (.str a3)],.agg [.d (.int .i64 a4),.d (.int .i64 a5),.d (.str a6)]]=>fun k=>g ⟨a1,a2,a3⟩ ⟨a4,a5,a6⟩ (fun z0=>k (.d (.int .i64 z0)) [.undef,.undef]) | _=>fun _=>none
noncomputable def yyqy:Code:=(Tryz.f134.body).getD .skip
noncomputable def yNsy (g:C_z55z):Env A:=mkE [(116,yaGy g.strings_Compare),(121,ybVy g.z35z),(122,ybYy g.z25z)] [(2,[0]),(3,[1]),(15,[2])] [] [] [] [] [] [] [] []
theorem yMcy (g:C_z55z):Same (ygqy (@z55z_ g)) (abody (yNsy g) Tryz.f134 yyqy 3 [] [.asis] g.N):=by intro args; unfold ygqy; split; exact .inr fun R k=>(by kernel_rfl); exact .inl fun R k=>rfl
theorem ok_z55z [Fuel]:Ok 134 (ygqy (@z55z _)):=yaay std (.cons ybiy (.cons ygcy (.cons ygfy .nil))) ⟨rfl,rfl,by kernel_rfl,rfl,rfl,rfl⟩ (yMcy yxVy) (cuts0 (fun _=>rfl) (by kernel_rfl)) Tryz.func134 (by kernel_rfl) (by kernel_rfl)
noncomputable def yI1y (g:C_z55z):Env A:=mkED [(116,yaGy g.strings_Compare),(121,ybVy g.z35z),(122,ybYy g.z25z)] [(2,[0]),(3,[1]),(15,[2])] [] [] [] [] [] [] [] []
theorem yG5y (g:C_z55z):Same (ygqy (@z55z_ g)) (abody (yI1y g) Tryz.f134 yyqy 3 [] [.asis] g.N):=by intro args; unfold ygqy; split; exact .inr fun R k=>(by kernel_rfl); exact .inl fun R k=>rfl
theorem ywey [Fuel]:OkD 134 (ygqy (@z55z _)):=yaay stdD (.cons yf5y (.cons yxQy (.cons yxvy .nil))) ⟨rfl,rfl,by kernel_rfl,rfl,rfl,rfl⟩ (yG5y yxVy) (cuts0 (fun _=>rfl) (by kernel_rfl)) Tryz.func134 (by kernel_rfl) (by kernel_rfl)
abbrev ywzy:Type 1:=List G_Place→{R:Type}→(List G_Place→Option R)→Option R
noncomputable def z49z [Fuel]:ywzy:=@ybUy G_Place (@z55z _)
def yj9y (g:ywzy):Spec A:=fun args=>match args with | [.arr 143 a1,.fn 134 []]=>fun k=>g a1 (fun z=>k (.tup []) [.arr 143 z,.fn 134 []]) | _=>fun _=>none
theorem yAXy [Fuel] (xs:List (A 143)) (R:Type) (k:IV A→List (IV A)→Option R):yj9y (@z49z _) [.arr 143 xs,.fn 134 []] k = ybUy (α:=A 143) (@z55z _) xs (fun z=>k (.tup []) [.arr 143 z,.fn 134 []]):=by kernel_rfl
theorem yAZy [Fuel] (args:List (IV A)) (R:Type) (k:IV A→List (IV A)→Option R) (h:∀ xs:List (A 143),args ≠ [.arr 143 xs,.fn 134 []]):yj9y (@z49z _) args k = none:=by unfold yj9y; split; exact absurd rfl (h _); rfl
theorem yMJy [Fuel] (x y:A 143) (R:Type) (k:Int→Option R):ynpy T (ygqy (@z55z _)) 143 x y k = @z55z _ x y R k:=by kernel_rfl
theorem yI9y (x:G_Place):(ylQy x).all scal = true:=rfl
theorem yCby [Fuel]:Ok 133 (yj9y (@z49z _)):=⟨yjky (tyOk Tryz.prog) (e:=143) Tryz.sortf133 Tryz.isAgg143 Tryz.sizeOf143 (fun x d hd=>List.all_eq_true.1 (yI9y x) d hd) yMJy ywey.fs ywey.en yAXy yAZy,yp8y (e:=143) yAXy yAZy,yaOy (fn:=Tryz.f133) Tryz.func133 (by kernel_rfl) (by kernel_rfl)⟩
abbrev yydy:Type 1:=List G_Place→{R:Type}→(List G_Place→Option R)→Option R
structure C_z23z where
 N:Nat
 z49z:ywzy
def z23z_L3 (g:C_z23z):Nat→Int→Int→List G_Place→{R:Type}→(List G_Place→Option R)→Option R
 | 0,_,_,_,_,_=>none
 | n + 1,v3,v4,v5,_,e0=>(bif (decide (v4 < v3)) then (inr v5 v4 (at_ v5 v4 fun x11=>(bif (decide (v4 > 0)) then (inr (set_ v5 v4 (⟨(w64 (v4 + 1)),x11.f_Points,x11.f_Key⟩:G_Place)) v4 (at_ (set_ v5 v4 (⟨(w64 (v4 + 1)),x11.f_Points,x11.f_Key⟩:G_Place)) v4 fun x12=>(inr (set_ v5 v4 (⟨(w64 (v4 + 1)),x11.f_Points,x11.f_Key⟩:G_Place)) (w64 (v4 - 1)) (at_ (set_ v5 v4 (⟨(w64 (v4 + 1)),x11.f_Points,x11.f_Key⟩:G_Place)) (w64 (v4 - 1)) fun x13=>(bif (x12.f_Points == x13.f_Points) then (inr (set_ v5 v4 (⟨(w64 (v4 + 1)),x11.f_Points,x11.f_Key⟩:G_Place)) (w64 (v4 - 1)) (at_ (set_ v5 v4 (⟨(w64 (v4 + 1)),x11.f_Points,x11.f_Key⟩:G_Place)) (w64 (v4 - 1)) fun x14=>(inr (set_ v5 v4 (⟨(w64 (v4 + 1)),x11.f_Points,x11.f_Key⟩:G_Place)) v4 (at_ (set_ v5 v4 (⟨(w64 (v4 + 1)),x11.f_Points,x11.f_Key⟩:G_Place)) v4 fun x15=>z23z_L3 g n v3 (w64 (v4 + 1)) (set_ (set_ v5 v4 (⟨(w64 (v4 + 1)),x11.f_Points,x11.f_Key⟩:G_Place)) v4 (⟨x14.f_Rank,x15.f_Points,x15.f_Key⟩:G_Place)) e0)))) else z23z_L3 g n v3 (w64 (v4 + 1)) (set_ v5 v4 (⟨(w64 (v4 + 1)),x11.f_Points,x11.f_Key⟩:G_Place)) e0))))) else z23z_L3 g n v3 (w64 (v4 + 1)) (set_ v5 v4 (⟨(w64 (v4 + 1)),x11.f_Points,x11.f_Key⟩:G_Place)) e0))) else e0 v5)
def z23z_ (g:C_z23z) (a1:List G_Place) {R:Type} (k0:List G_Place→Option R):Option R :=
 (g.z49z a1 (fun r2=>(z23z_L3 g g.N (r2.length:Int) 0 r2 (fun e16=>k0 e16))))
noncomputable def yfky [Fuel]:C_z23z:=⟨NN,@z49z _⟩
noncomputable def z23z [Fuel]:yydy:=@z23z_ yfky
def yoYy (g:yydy):Spec A:=fun args=>match args with | [.arr 143 a1]=>fun k=>g a1 (fun z0=>k (.arr 143 z0) [.undef]) | _=>fun _=>none
def ylqy:SSt:=mkSh 45 1 [(0,.own 143 0),(7,.int .i64),(8,.int .i64)] [(0,.row 143)]
def yfuy (g:C_z23z) (n:Nat):LPT A:=fun ps=>match ps with | [.d (.int .i64 p1),.d (.int .i64 p2),.d (.sl 143 p3)]=>fun K=>z23z_L3 g n p1 p2 p3 (fun z0=>K (.exit 0) (mkSt 45 1 [(0,.own 143 0)] [(0,some (.row 143 z0))])) | _=>fun _=>none
noncomputable def yAwy:Code:=(Tryz.f86.body).getD .skip
noncomputable def yqZy (g:C_z23z):Env A:=mkE [(133,yj9y g.z49z)] [] [(3,⟨[0,7,8],[],[0],[],[],[],[]⟩)] [(3,⟨[0],[],[0],[],[],[],[]⟩)] [(3,yafy ylqy (yfuy g g.N))] [] [] [] [(133,0)] []
theorem yLPy [Fuel]:yahy (yqZy yfky).C:=ct_of (P:=Tryz.prog) (T:=T) (.cons yCby .nil) (by kernel_rfl)
noncomputable def yqVy:Code:=sub [1,1,0,1,0,0] yAwy
theorem yF2y (g:C_z23z) (n:Nat):yaky (yqZy g) g.N yqVy ylqy (yfuy g) n:=by intro ps; unfold yfuy; split; exact .inr fun R K=>(by kernel_rfl); exact .inl fun R K=>rfl
theorem yC5y [Fuel]:yacy (yqZy yfky) NN yqVy:=yaey ylqy (yfuy yfky) (by kernel_rfl) yLPy (cuts0 (fun _=>rfl) (by kernel_rfl)) (fun ps R K=>by unfold yfuy; split <;> (try unfold z23z_L3) <;> rfl) (yF2y yfky)
theorem yK3y (g:C_z23z):Same (yoYy (@z23z_ g)) (abody (yqZy g) Tryz.f86 yAwy 1 [0] [.arr 143] g.N):=by intro args; unfold yoYy; split; exact .inr fun R k=>(by kernel_rfl); exact .inl fun R k=>rfl
theorem yA9y [Fuel]:Ok 86 (yoYy (@z23z _)):=yaay std (.cons yCby .nil) ⟨rfl,rfl,by kernel_rfl,rfl,rfl,rfl⟩ (yK3y yfky) (cutsL (fun _=>rfl) (.cons yC5y .nil) (by kernel_rfl)) Tryz.func86 (by kernel_rfl) (by kernel_rfl)
end Go.Am
