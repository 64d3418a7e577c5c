/- The functions of the program as Lean functions, each shown to be what the code computes, part 1. No condition: lemmas for the claim. -/
import Derived.Test.YtfngnnmdgfkenaaGreatDoorF0
import Derived.Test.YtfngnnmdgfkenaaGreatDoorFSh
set_option linter.unusedVariables false
set_option maxRecDepth 100000
namespace Go.Am
open Go Go.Proofs
abbrev ynoy:Type 1:=Int→Int→{R:Type}→(Int→Option R)→Option R
def yq1y (g:Nat) (a1 a2:Int) {R:Type} (k0:Int→Option R):Option R :=
 (bif (decide (a2 < 1)) then k0 0 else (bif (a2 == 0) then none else (bif (decide ((Int.tmod a1 a2) < 0)) then k0 (w64 ((Int.tmod a1 a2) + a2)) else k0 (Int.tmod a1 a2))))
noncomputable def M_Below [Fuel]:ynoy:=@yq1y NN
def yh5y (g:ynoy):Spec A:=fun args=>match args with | [.d (.int .i64 a1),.d (.int .i64 a2)]=>fun k=>g a1 a2 (fun z0=>k (.d (.int .i64 z0)) [.undef,.undef]) | _=>fun _=>none
noncomputable def yOKy:Code:=(Tryz.f50.body).getD .skip
noncomputable def yHjy (g:Nat):Env A:=mkE [] [] [] [] [] [] [] [] [] []
theorem yFNy (g:Nat):Same (yh5y (@yq1y g)) (abody (yHjy g) Tryz.f50 yOKy 0 [] [.asis] g):=by intro args; unfold yh5y; split; exact .inr fun R k=>(by kernel_rfl); exact .inl fun R k=>rfl
theorem yEWy [Fuel]:Ok 50 (yh5y (@M_Below _)):=yaay std .nil ⟨rfl,rfl,by kernel_rfl,rfl,rfl,rfl⟩ (yFNy NN) (cuts0 (fun _=>rfl) (by kernel_rfl)) Tryz.func50 (by kernel_rfl) (by kernel_rfl)
abbrev yiMy:Type 1:=G_Stream→Int→{R:Type}→(Int→G_Stream→Option R)→Option R
structure C_z82z where
 N:Nat
 M_Below:ynoy
def z82z_ (g:C_z82z) (a1:G_Stream) (a2:Int) {R:Type} (k0:Int→G_Stream→Option R):Option R :=
 (bif ((a1.f_L.length:Int) == 0) then (g.M_Below (w64 ((w64 (a1.f_at + 1)) * 7919)) a2 (fun r3=>k0 r3 (⟨a1.f_L,(w64 (a1.f_at + 1))⟩:G_Stream))) else (bif ((a1.f_L.length:Int) == 0) then none else (bif ((a1.f_L.length:Int) == 0) then none else (get_ a1.f_L (Int.tmod (w64 ((w64 (a1.f_at + 1)) - 1)) (a1.f_L.length:Int)) fun x4=>(g.M_Below x4 1073741824 (fun r5=>(g.M_Below (w64 (r5 + (w64 ((w64 (Int.tdiv (w64 ((w64 (a1.f_at + 1)) - 1)) (a1.f_L.length:Int))) * (w64 (7919 + (Int.tmod (w64 ((w64 (a1.f_at + 1)) - 1)) (a1.f_L.length:Int)))))))) a2 (fun r6=>k0 r6 (⟨a1.f_L,(w64 (a1.f_at + 1))⟩:G_Stream)))))))))
noncomputable def yziy [Fuel]:C_z82z:=⟨NN,@M_Below _⟩
noncomputable def z82z [Fuel]:yiMy:=@z82z_ yziy
def yeQy (g:yiMy):Spec A:=fun args=>match args with | [.box [.d (.sl 3 a1),.d (.int .i64 a2)],.d (.int .i64 a3)]=>fun k=>g ⟨a1,a2⟩ a3 (fun z0 z1=>k (.d (.int .i64 z0)) [.box [.d (.sl 3 z1.f_L),.d (.int .i64 z1.f_at)],.undef]) | _=>fun _=>none
noncomputable def yMpy:Code:=(Tryz.f23.body).getD .skip
noncomputable def yQ4y (g:C_z82z):Env A:=mkE [(50,yh5y g.M_Below)] [] [] [] [] [] [] [] [] [0]
theorem yL3y (g:C_z82z):Same (yeQy (@z82z_ g)) (abody (yQ4y g) Tryz.f23 yMpy 1 [0] [.asis] g.N):=by intro args; unfold yeQy; split; exact .inr fun R k=>(by kernel_rfl); exact .inl fun R k=>rfl
theorem yisy [Fuel]:Ok 23 (yeQy (@z82z _)):=yaay std (.cons yEWy .nil) ⟨rfl,rfl,by kernel_rfl,rfl,rfl,rfl⟩ (yL3y yziy) (cuts0 (fun _=>rfl) (by kernel_rfl)) Tryz.func23 (by kernel_rfl) (by kernel_rfl)
abbrev yhLy:Type 1:=G_Stream→Int→{R:Type}→(Bool→G_Stream→Option R)→Option R
structure C_z74z where
 N:Nat
 z82z:yiMy
def z74z_ (g:C_z74z) (a1:G_Stream) (a2:Int) {R:Type} (k0:Bool→G_Stream→Option R):Option R :=
 (g.z82z a1 a2 (fun r3 r4=>k0 (r3 == 0) r4))
noncomputable def yAby [Fuel]:C_z74z:=⟨NN,@z82z _⟩
noncomputable def z74z [Fuel]:yhLy:=@z74z_ yAby
def yd3y (g:yhLy):Spec A:=fun args=>match args with | [.box [.d (.sl 3 a1),.d (.int .i64 a2)],.d (.int .i64 a3)]=>fun k=>g ⟨a1,a2⟩ a3 (fun z0 z1=>k (.d (.bool z0)) [.box [.d (.sl 3 z1.f_L),.d (.int .i64 z1.f_at)],.undef]) | _=>fun _=>none
noncomputable def yMCy:Code:=(Tryz.f21.body).getD .skip
noncomputable def yQWy (g:C_z74z):Env A:=mkE [(23,yeQy g.z82z)] [] [] [] [] [] [] [] [] [0]
theorem yL4y (g:C_z74z):Same (yd3y (@z74z_ g)) (abody (yQWy g) Tryz.f21 yMCy 1 [0] [.asis] g.N):=by intro args; unfold yd3y; split; exact .inr fun R k=>(by kernel_rfl); exact .inl fun R k=>rfl
theorem ydky [Fuel]:Ok 21 (yd3y (@z74z _)):=yaay std (.cons yisy .nil) ⟨rfl,rfl,by kernel_rfl,rfl,rfl,rfl⟩ (yL4y yAby) (cuts0 (fun _=>rfl) (by kernel_rfl)) Tryz.func21 (by kernel_rfl) (by kernel_rfl)
abbrev ykty:Type 1:=G_Stream→List Int→{R:Type}→(Int→G_Stream→Option R)→Option R
structure C_z79z where
 N:Nat
 z82z:yiMy
def z79z_ (g:C_z79z) (a1:G_Stream) (a2:List Int) {R:Type} (k0:Int→G_Stream→Option R):Option R :=
 (g.z82z a1 (a2.length:Int) (fun r3 r4=>(get_ a2 r3 fun x5=>k0 x5 r4)))
noncomputable def yxuy [Fuel]:C_z79z:=⟨NN,@z82z _⟩
noncomputable def z79z [Fuel]:ykty:=@z79z_ yxuy
def ygYy (g:ykty):Spec A:=fun args=>match args with | [.box [.d (.sl 3 a1),.d (.int .i64 a2)],.d (.sl 3 a3)]=>fun k=>g ⟨a1,a2⟩ a3 (fun z0 z1=>k (.d (.int .i64 z0)) [.box [.d (.sl 3 z1.f_L),.d (.int .i64 z1.f_at)],.undef]) | _=>fun _=>none
noncomputable def yOby:Code:=(Tryz.f22.body).getD .skip
noncomputable def yQ6y (g:C_z79z):Env A:=mkE [(23,yeQy g.z82z)] [] [] [] [] [] [] [] [] [0]
theorem yMhy (g:C_z79z):Same (ygYy (@z79z_ g)) (abody (yQ6y g) Tryz.f22 yOby 1 [0] [.asis] g.N):=by intro args; unfold ygYy; split; exact .inr fun R k=>(by kernel_rfl); exact .inl fun R k=>rfl
theorem ygRy [Fuel]:Ok 22 (ygYy (@z79z _)):=yaay std (.cons yisy .nil) ⟨rfl,rfl,by kernel_rfl,rfl,rfl,rfl⟩ (yMhy yxuy) (cuts0 (fun _=>rfl) (by kernel_rfl)) Tryz.func22 (by kernel_rfl) (by kernel_rfl)
abbrev ykRy:Type 1:=G_Stream→List (List UInt8)→{R:Type}→(List UInt8→G_Stream→Option R)→Option R
structure C_z83z where
 N:Nat
 z82z:yiMy
def z83z_ (g:C_z83z) (a1:G_Stream) (a2:List (List UInt8)) {R:Type} (k0:List UInt8→G_Stream→Option R):Option R :=
 (g.z82z a1 (a2.length:Int) (fun r3 r4=>(get_ a2 r3 fun x5=>k0 x5 r4)))
noncomputable def yy9y [Fuel]:C_z83z:=⟨NN,@z82z _⟩
noncomputable def z83z [Fuel]:ykRy:=@z83z_ yy9y
def ygEy (g:ykRy):Spec A:=fun args=>match args with | [.box [.d (.sl 3 a1),.d (.int .i64 a2)],.d (.sl 9 a3)]=>fun k=>g ⟨a1,a2⟩ a3 (fun z0 z1=>k (.d (.str z0)) [.box [.d (.sl 3 z1.f_L),.d (.int .i64 z1.f_at)],.undef]) | _=>fun _=>none
noncomputable def yMny:Code:=(Tryz.f24.body).getD .skip
noncomputable def yQQy (g:C_z83z):Env A:=mkE [(23,yeQy g.z82z)] [] [] [] [] [] [] [] [] [0]
theorem yMuy (g:C_z83z):Same (ygEy (@z83z_ g)) (abody (yQQy g) Tryz.f24 yMny 1 [0] [.asis] g.N):=by intro args; unfold ygEy; split; exact .inr fun R k=>(by kernel_rfl); exact .inl fun R k=>rfl
theorem ygGy [Fuel]:Ok 24 (ygEy (@z83z _)):=yaay std (.cons yisy .nil) ⟨rfl,rfl,by kernel_rfl,rfl,rfl,rfl⟩ (yMuy yy9y) (cuts0 (fun _=>rfl) (by kernel_rfl)) Tryz.func24 (by kernel_rfl) (by kernel_rfl)
abbrev yruy:Type 1:=G_Stream→Int→Int→{R:Type}→(Int→G_Stream→Option R)→Option R
structure C_z99z where
 N:Nat
 z82z:yiMy
def z99z_ (g:C_z99z) (a1:G_Stream) (a2 a3:Int) {R:Type} (k0:Int→G_Stream→Option R):Option R :=
 (bif (decide (a3 < a2)) then k0 a2 a1 else (g.z82z a1 (w64 ((w64 (a3 - a2)) + 1)) (fun r4 r5=>k0 (w64 (a2 + r4)) r5)))
noncomputable def yAiy [Fuel]:C_z99z:=⟨NN,@z82z _⟩
noncomputable def z99z [Fuel]:yruy:=@z99z_ yAiy
def ykxy (g:yruy):Spec A:=fun args=>match args with | [.box [.d (.sl 3 a1),.d (.int .i64 a2)],.d (.int .i64 a3),.d (.int .i64 a4)]=>fun k=>g ⟨a1,a2⟩ a3 a4 (fun z0 z1=>k (.d (.int .i64 z0)) [.box [.d (.sl 3 z1.f_L),.d (.int .i64 z1.f_at)],.undef,.undef]) | _=>fun _=>none
noncomputable def yP9y:Code:=(Tryz.f29.body).getD .skip
noncomputable def yQXy (g:C_z99z):Env A:=mkE [(23,yeQy g.z82z)] [] [] [] [] [] [] [] [] [0]
theorem yPDy (g:C_z99z):Same (ykxy (@z99z_ g)) (abody (yQXy g) Tryz.f29 yP9y 1 [0] [.asis] g.N):=by intro args; unfold ykxy; split; exact .inr fun R k=>(by kernel_rfl); exact .inl fun R k=>rfl
theorem yvqy [Fuel]:Ok 29 (ykxy (@z99z _)):=yaay std (.cons yisy .nil) ⟨rfl,rfl,by kernel_rfl,rfl,rfl,rfl⟩ (yPDy yAiy) (cuts0 (fun _=>rfl) (by kernel_rfl)) Tryz.func29 (by kernel_rfl) (by kernel_rfl)
abbrev ydvy:Type 1:=G_Stream→Int→Int→{R:Type}→(Int→G_Stream→Option R)→Option R
structure C_Stream_Odd where
 N:Nat
 z74z:yhLy
 z79z:ykty
 z99z:yruy
def yg7y (g:C_Stream_Odd) (a1:G_Stream) (a2 a3:Int) {R:Type} (k0:Int→G_Stream→Option R):Option R :=
 (g.z74z a1 12 (fun r4 r5=>(bif r4 then (g.z79z r5 [(w64 (a2 - 1)),(w64 (a3 + 1)),a2,a3,(-1099511627776),1099511627776] (fun r6 r7=>k0 r6 r7)) else (g.z99z r5 a2 a3 (fun r8 r9=>k0 r8 r9)))))
noncomputable def ygry [Fuel]:C_Stream_Odd:=⟨NN,@z74z _,@z79z _,@z99z _⟩
noncomputable def Stream_Odd [Fuel]:ydvy:=@yg7y ygry
def ycfy (g:ydvy):Spec A:=fun args=>match args with | [.box [.d (.sl 3 a1),.d (.int .i64 a2)],.d (.int .i64 a3),.d (.int .i64 a4)]=>fun k=>g ⟨a1,a2⟩ a3 a4 (fun z0 z1=>k (.d (.int .i64 z0)) [.box [.d (.sl 3 z1.f_L),.d (.int .i64 z1.f_at)],.undef,.undef]) | _=>fun _=>none
noncomputable def yPPy:Code:=(Tryz.f25.body).getD .skip
noncomputable def yzHy (g:C_Stream_Odd):Env A:=mkE [(21,yd3y g.z74z),(22,ygYy g.z79z),(29,ykxy g.z99z)] [(16,[1])] [] [] [] [] [] [] [] [0]
theorem yw6y (g:C_Stream_Odd):Same (ycfy (@yg7y g)) (abody (yzHy g) Tryz.f25 yPPy 2 [0] [.asis] g.N):=by intro args; unfold ycfy; split; exact .inr fun R k=>(by kernel_rfl); exact .inl fun R k=>rfl
theorem ycby [Fuel]:Ok 25 (ycfy (@Stream_Odd _)):=yaay std (.cons ydky (.cons ygRy (.cons yvqy .nil))) ⟨rfl,rfl,by kernel_rfl,rfl,rfl,rfl⟩ (yw6y ygry) (cuts0 (fun _=>rfl) (by kernel_rfl)) Tryz.func25 (by kernel_rfl) (by kernel_rfl)
abbrev yupy:Type 1:=Int→{R:Type}→(Bool→Option R)→Option R
def z100z_ (g:Nat) (a1:Int) {R:Type} (k0:Bool→Option R):Option R :=
 k0 (a1 != a1)
noncomputable def z100z [Fuel]:yupy:=@z100z_ NN
def ydwy (g:yupy):Spec A:=fun args=>match args with | [.d (.int .i64 a1)]=>fun k=>g a1 (fun z0=>k (.d (.bool z0)) [.undef]) | _=>fun _=>none
noncomputable def yC4y:Code:=(Tryz.f96.body).getD .skip
noncomputable def yOjy (g:Nat):Env A:=mkE [] [] [] [] [] [] [] [] [] []
theorem yJyy (g:Nat):Same (ydwy (@z100z_ g)) (abody (yOjy g) Tryz.f96 yC4y 0 [] [.asis] g):=by intro args; unfold ydwy; split; exact .inr fun R k=>(by kernel_rfl); exact .inl fun R k=>rfl
theorem yKuy [Fuel]:Ok 96 (ydwy (@z100z _)):=yaay std .nil ⟨rfl,rfl,by kernel_rfl,rfl,rfl,rfl⟩ (yJyy NN) (cuts0 (fun _=>rfl) (by kernel_rfl)) Tryz.func96 (by kernel_rfl) (by kernel_rfl)
noncomputable def yKhy (g:Nat):Env A:=mkED [] [] [] [] [] [] [] [] [] []
theorem yIJy (g:Nat):Same (ydwy (@z100z_ g)) (abody (yKhy g) Tryz.f96 yC4y 0 [] [.asis] g):=by intro args; unfold ydwy; split; exact .inr fun R k=>(by kernel_rfl); exact .inl fun R k=>rfl
theorem yGTy [Fuel]:OkD 96 (ydwy (@z100z _)):=yaay stdD .nil ⟨rfl,rfl,by kernel_rfl,rfl,rfl,rfl⟩ (yIJy NN) (cuts0 (fun _=>rfl) (by kernel_rfl)) Tryz.func96 (by kernel_rfl) (by kernel_rfl)
abbrev yfyy:Type 1:=Int→Int→{R:Type}→(Int→Option R)→Option R
structure C_z29z where
 N:Nat
 z100z:yupy
def z29z_ (g:C_z29z) (a1 a2:Int) {R:Type} (k0:Int→Option R):Option R :=
 (g.z100z a1 (fun r3=>(g.z100z a2 (fun r4=>(bif r3 then (bif r4 then k0 0 else k0 (-1)) else (bif r4 then k0 1 else (bif (decide (a1 < a2)) then k0 (-1) else (bif (decide (a1 > a2)) then k0 1 else k0 0))))))))
noncomputable def ysIy [Fuel]:C_z29z:=⟨NN,@z100z _⟩
noncomputable def z29z [Fuel]:yfyy:=@z29z_ ysIy
def ybFy (g:yfyy):Spec A:=fun args=>match args with | [.d (.int .i64 a1),.d (.int .i64 a2)]=>fun k=>g a1 a2 (fun z0=>k (.d (.int .i64 z0)) [.undef,.undef]) | _=>fun _=>none
noncomputable def yDky:Code:=(Tryz.f52.body).getD .skip
noncomputable def yQNy (g:C_z29z):Env A:=mkE [(96,ydwy g.z100z)] [] [] [] [] [] [] [] [] []
theorem yPFy (g:C_z29z):Same (ybFy (@z29z_ g)) (abody (yQNy g) Tryz.f52 yDky 0 [] [.asis] g.N):=by intro args; unfold ybFy; split; exact .inr fun R k=>(by kernel_rfl); exact .inl fun R k=>rfl
theorem ye2y [Fuel]:Ok 52 (ybFy (@z29z _)):=yaay std (.cons yKuy .nil) ⟨rfl,rfl,by kernel_rfl,rfl,rfl,rfl⟩ (yPFy ysIy) (cuts0 (fun _=>rfl) (by kernel_rfl)) Tryz.func52 (by kernel_rfl) (by kernel_rfl)
noncomputable def yNDy (g:C_z29z):Env A:=mkED [(96,ydwy g.z100z)] [] [] [] [] [] [] [] [] []
theorem yJBy (g:C_z29z):Same (ybFy (@z29z_ g)) (abody (yNDy g) Tryz.f52 yDky 0 [] [.asis] g.N):=by intro args; unfold ybFy; split; exact .inr fun R k=>(by kernel_rfl); exact .inl fun R k=>rfl
theorem yqXy [Fuel]:OkD 52 (ybFy (@z29z _)):=yaay stdD (.cons yGTy .nil) ⟨rfl,rfl,by kernel_rfl,rfl,rfl,rfl⟩ (yJBy ysIy) (cuts0 (fun _=>rfl) (by kernel_rfl)) Tryz.func52 (by kernel_rfl) (by kernel_rfl)
abbrev yn5y:Type 1:=List Int→List Int→{R:Type}→(Int→Option R)→Option R
structure C_z27z where
 N:Nat
 z29z:yfyy
def z27z_L2 (g:C_z27z):Nat→List Int→List Int→List Int→Int→Int→{R:Type}→(List Int→List Int→Int→Option R)→(List Int→List Int→Option R)→Option R
 | 0,_,_,_,_,_,_,_,_=>none
 | n + 1,v3,v4,v5,v6,v7,_,e0,e1=>(bif (decide (v7 < v6)) then (get_ v5 v7 fun x11=>(bif (decide (v7 ≥ (v4.length:Int))) then e0 v3 v4 1 else (get_ v4 v7 fun x12=>(g.z29z x11 x12 (fun r13=>(bif (r13 != 0) then e0 v3 v4 r13 else z27z_L2 g n v3 v4 v5 v6 (w64 (v7 + 1)) e0 e1)))))) else e1 v3 v4)
def z27z_ (g:C_z27z) (a1 a2:List Int) {R:Type} (k0:Int→Option R):Option R :=
 (z27z_L2 g g.N a1 a2 a1 (a1.length:Int) 0 (fun e14 e15 e16=>k0 e16) (fun e17 e18=>(bif (decide ((e17.length:Int) < (e18.length:Int))) then k0 (-1) else k0 0)))
noncomputable def yc0y [Fuel]:C_z27z:=⟨NN,@z29z _⟩
noncomputable def z27z [Fuel]:yn5y:=@z27z_ yc0y
def yily (g:yn5y):Spec A:=fun args=>match args with | [.d (.sl 3 a1),.d (.sl 3 a2)]=>fun k=>g a1 a2 (fun z0=>k (.d (.int .i64 z0)) [.undef,.undef]) | _=>fun _=>none
def ylEy:SSt:=mkSh 36 0 [(0,.sl 3),(1,.sl 3),(9,.sl 3),(10,.int .i64),(11,.int .i64)] []
def yf0y (g:C_z27z) (n:Nat):LPT A:=fun ps=>match ps with | [.d (.sl 3 p1),.d (.sl 3 p2),.d (.sl 3 p3),.d (.int .i64 p4),.d (.int .i64 p5)]=>fun K=>z27z_L2 g n p1 p2 p3 p4 p5 (fun z0 z1 z2=>K .ret (mkSt 36 0 [(0,.d (.sl 3 z0)),(1,.d (.sl 3 z1)),(4,.d (.int .i64 z2))] [])) (fun z0 z1=>K (.exit 0) (mkSt 36 0 [(0,.d (.sl 3 z0)),(1,.d (.sl 3 z1))] [])) | _=>fun _=>none
noncomputable def yD7y:Code:=(Tryz.f28.body).getD .skip
noncomputable def yt0y (g:C_z27z):Env A:=mkE [(52,ybFy g.z29z)] [] [(2,⟨[0,1,9,10,11],[],[],[],[],[],[]⟩)] [(2,⟨[0,1,4],[],[],[],[],[],[]⟩)] [(2,yady ylEy (yf0y g g.N))] [] [] [] [] []
theorem yPcy [Fuel]:yahy (yt0y yc0y).C:=ct_of (P:=Tryz.prog) (T:=T) (.cons ye2y .nil) (by kernel_rfl)
noncomputable def ytQy:Code:=sub [1,0,1,0,0] yD7y
theorem yHey (g:C_z27z) (n:Nat):yaiy (yt0y g) g.N ytQy ylEy (yf0y g) n:=by intro ps; unfold yf0y; split; exact .inr fun R K=>(by kernel_rfl); exact .inl fun R K=>rfl
theorem yFIy [Fuel]:yaby (yt0y yc0y) NN ytQy:=yacy ylEy (yf0y yc0y) (by kernel_rfl) yPcy (cuts0 (fun _=>rfl) (by kernel_rfl)) (fun ps R K=>by unfold yf0y; split <;> (try unfold z27z_L2) <;> rfl) (yHey yc0y)
theorem yOxy (g:C_z27z):Same (yily (@z27z_ g)) (abody (yt0y g) Tryz.f28 yD7y 0 [] [.asis] g.N):=by intro args; unfold yily; split; exact .inr fun R k=>(by kernel_rfl); exact .inl fun R k=>rfl
theorem yuBy [Fuel]:Ok 28 (yily (@z27z _)):=yaay std (.cons ye2y .nil) ⟨rfl,rfl,by kernel_rfl,rfl,rfl,rfl⟩ (yOxy yc0y) (cutsL (fun _=>rfl) (.cons yFIy .nil) (by kernel_rfl)) Tryz.func28 (by kernel_rfl) (by kernel_rfl)
abbrev T_z8z:Type 1:=G_Segment→G_Segment→{R:Type}→(Int→Option R)→Option R
structure C_z8z where
 N:Nat
 z27z:yn5y
def z8z_ (g:C_z8z) (a1 a2:G_Segment) {R:Type} (k0:Int→Option R):Option R :=
 (bif (!(a1.f_Class == a2.f_Class)) then (bif (Op.bytesLess a1.f_Class a2.f_Class) then k0 (-1) else k0 1) else (g.z27z [a1.f_Low,a1.f_High,a1.f_Time.f_From] [a2.f_Low,a2.f_High,a2.f_Time.f_From] (fun r3=>k0 r3)))
noncomputable def I_z8z [Fuel]:C_z8z:=⟨NN,@z27z _⟩
noncomputable def z8z [Fuel]:T_z8z:=@z8z_ I_z8z
def ytqy (g:T_z8z):Spec A:=fun args=>match args with | [.agg [.d (.str a1),.d (.int .i64 a2),.d (.int .i64 a3),.d (.sl 3 a4),.d (.int .i64 a5),.d (.int .i64 a6)],.agg [.d (.str a7),.d (.int .i64 a8),.d (.int .i64 a9),.d (.sl 3 a10),.d (.int .i64 a11),.d (.int .i64 a12)]]=>fun k=>g ⟨a1,a2,a3,a4,⟨a5,a6⟩⟩ ⟨a7,a8,a9,a10,⟨a11,a12⟩⟩ (fun z0=>k (.d (.int .i64 z0)) [.undef,.undef]) | _=>fun _=>none
noncomputable def yNLy:Code:=(Tryz.f27.body).getD .skip
noncomputable def E_z8z (g:C_z8z):Env A:=mkE [(28,yily g.z27z)] [(2,[0]),(3,[1]),(22,[2]),(30,[3])] [] [] [] [] [] [] [] []
theorem yRpy (g:C_z8z):Same (ytqy (@z8z_ g)) (abody (E_z8z g) Tryz.f27 yNLy 4 [] [.asis] g.N):=by intro args; unfold ytqy; split; exact .inr fun R k=>(by kernel_rfl); exact .inl fun R k=>rfl
theorem yGYy [Fuel]:Ok 27 (ytqy (@z8z _)):=yaay std (.cons yuBy .nil) ⟨rfl,rfl,by kernel_rfl,rfl,rfl,rfl⟩ (yRpy I_z8z) (cuts0 (fun _=>rfl) (by kernel_rfl)) Tryz.func27 (by kernel_rfl) (by kernel_rfl)
abbrev T_z6z:Type 1:=List G_Segment→Int→Int→{R:Type}→(List G_Segment→Option R)→Option R
structure C_z6z where
 N:Nat
 z8z:T_z8z
def z6z_L4 (g:C_z6z):Nat→Int→Int→Int→Int→List G_Segment→{R:Type}→(Int→Int→Int→List G_Segment→Option R)→Option R
 | 0,_,_,_,_,_,_,_=>none
 | n + 1,v31,v32,v33,v34,v35,_,e0=>(bif (decide (v34 > v31)) then (inr v35 v34 (at_ v35 v34 fun x43=>(inr v35 (w64 (v34 - 1)) (at_ v35 (w64 (v34 - 1)) fun x44=>(g.z8z x43 x44 (fun r45=>(bif (decide (r45 < 0)) then (inr v35 (w64 (v34 - 1)) (at_ v35 (w64 (v34 - 1)) fun x46=>(inr v35 v34 (at_ v35 v34 fun x47=>(inr v35 v34 (at_ v35 v34 fun x48=>(inr (set_ v35 v34 x46) (w64 (v34 - 1)) (at_ (set_ v35 v34 x46) (w64 (v34 - 1)) fun x49=>z6z_L4 g n v31 v32 v33 (w64 (v34 - 1)) (set_ (set_ v35 v34 x46) (w64 (v34 - 1)) x47) e0)))))))) else e0 v31 v32 v33 v35))))))) else e0 v31 v32 v33 v35)
def z6z_L1 (g:C_z6z):Nat→Int→Int→Int→List G_Segment→{R:Type}→(List G_Segment→Option R)→Option R
 | 0,_,_,_,_,_,_=>none
 | n + 1,v4,v5,v6,v7,_,e0=>(bif (decide (v6 < v5)) then (z6z_L4 g g.N v4 v5 v6 v6 v7 (fun e50 e51 e52 e53=>z6z_L1 g n e50 e51 (w64 (e52 + 1)) e53 e0)) else e0 v7)
def z6z_ (g:C_z6z) (a1:List G_Segment) (a2 a3:Int) {R:Type} (k0:List G_Segment→Option R):Option R :=
 (z6z_L1 g g.N a2 a3 (w64 (a2 + 1)) a1 (fun e54=>k0 e54))
noncomputable def I_z6z [Fuel]:C_z6z:=⟨NN,@z8z _⟩
noncomputable def z6z [Fuel]:T_z6z:=@z6z_ I_z6z
def yrZy (g:T_z6z):Spec A:=fun args=>match args with | [.arr 52 a1,.d (.int .i64 a2),.d (.int .i64 a3),.fn 27 []]=>fun k=>g a1 a2 a3 (fun z0=>k (.tup []) [.arr 52 z0,.undef,.undef,.fn 27 []]) | _=>fun _=>none
def ynyy:SSt:=mkSh 53 1 [(0,.own 52 0),(1,.int .i64),(2,.int .i64),(3,.fn 27 []),(8,.int .i64),(9,.int .i64)] [(0,.row 52)]
def yhCy (g:C_z6z) (n:Nat):LPT A:=fun ps=>match ps with | [.d (.int .i64 p1),.d (.int .i64 p2),.d (.int .i64 p3),.d (.int .i64 p4),.d (.sl 52 p5)]=>fun K=>z6z_L4 g n p1 p2 p3 p4 p5 (fun z0 z1 z2 z3=>K (.exit 2) (mkSt 53 1 [(0,.own 52 0),(1,.d (.int .i64 z0)),(2,.d (.int .i64 z1)),(3,.fn 27 []),(8,.d (.int .i64 z2))] [(0,some (.row 52 z3))])) | _=>fun _=>none
def ynVy:SSt:=mkSh 53 1 [(0,.own 52 0),(1,.int .i64),(2,.int .i64),(3,.fn 27 []),(8,.int .i64)] [(0,.row 52)]
def yhIy (g:C_z6z) (n:Nat):LPT A:=fun ps=>match ps with | [.d (.int .i64 p1),.d (.int .i64 p2),.d (.int .i64 p3),.d (.sl 52 p4)]=>fun K=>z6z_L1 g n p1 p2 p3 p4 (fun z0=>K (.exit 0) (mkSt 53 1 [(0,.own 52 0),(3,.fn 27 [])] [(0,some (.row 52 z0))])) | _=>fun _=>none
noncomputable def yuty:Code:=(Tryz.f94.body).getD .skip
noncomputable def E_z6z (g:C_z6z):Env A:=mkE [(27,ytqy g.z8z)] [] [(4,⟨[0,1,2,3,8,9],[],[0],[],[],[],[]⟩),(1,⟨[0,1,2,3,8],[],[0],[],[],[],[]⟩)] [(4,⟨[0,1,2,3,8],[],[0],[],[],[],[]⟩),(1,⟨[0,3],[],[0],[],[],[],[]⟩)] [(4,yady ynyy (yhCy g g.N)),(1,yady ynVy (yhIy g g.N))] [] [] [] [] [0,3]
theorem yH6y [Fuel]:yahy (E_z6z I_z6z).C:=ct_of (P:=Tryz.prog) (T:=T) (.cons yGYy .nil) (by kernel_rfl)
noncomputable def yvGy:Code:=sub [1,0,0,1,0,0,1,0,0] yuty
theorem yJky (g:C_z6z) (n:Nat):yaiy (E_z6z g) g.N yvGy ynyy (yhCy g) n:=by intro ps; unfold yhCy; split; exact .inr fun R K=>(by kernel_rfl); exact .inl fun R K=>rfl
theorem yvOy [Fuel]:yaby (E_z6z I_z6z) NN yvGy:=yacy ynyy (yhCy I_z6z) (by kernel_rfl) yH6y (cuts0 (fun _=>rfl) (by kernel_rfl)) (fun ps R K=>by unfold yhCy; split <;> (try unfold z6z_L4) <;> rfl) (yJky I_z6z)
noncomputable def ywmy:Code:=sub [1,0,0] yuty
theorem yJZy (g:C_z6z) (n:Nat):yaiy (E_z6z g) g.N ywmy ynVy (yhIy g) n:=by intro ps; unfold yhIy; split; exact .inr fun R K=>(by kernel_rfl); exact .inl fun R K=>rfl
theorem yHby [Fuel]:yaby (E_z6z I_z6z) NN ywmy:=yacy ynVy (yhIy I_z6z) (by kernel_rfl) yH6y (cutsL (fun _=>rfl) (.cons yvOy .nil) (by kernel_rfl)) (fun ps R K=>by unfold yhIy; split <;> (try unfold z6z_L1) <;> rfl) (yJZy I_z6z)
theorem yQFy (g:C_z6z):Same (yrZy (@z6z_ g)) (abody (E_z6z g) Tryz.f94 yuty 1 [0] [] g.N):=by intro args; unfold yrZy; split; exact .inr fun R k=>(by kernel_rfl); exact .inl fun R k=>rfl
theorem yHYy [Fuel]:Ok 94 (yrZy (@z6z _)):=yaay std (.cons yGYy .nil) ⟨rfl,rfl,by kernel_rfl,rfl,rfl,rfl⟩ (yQFy I_z6z) (cutsL (fun _=>rfl) (.cons yvOy (.cons yHby .nil)) (by kernel_rfl)) Tryz.func94 (by kernel_rfl) (by kernel_rfl)
abbrev T_z5z:Type 1:=List G_Segment→Int→{R:Type}→(List G_Segment→Option R)→Option R
structure C_z5z where
 N:Nat
 z6z:T_z6z
def z5z_L2 (g:C_z5z):Nat→Int→Int→Int→Int→List G_Segment→{R:Type}→(Int→Int→Int→List G_Segment→Option R)→Option R
 | 0,_,_,_,_,_,_,_=>none
 | n + 1,v3,v4,v5,v6,v7,_,e0=>(bif (decide (v6≤v3)) then (g.z6z v7 v5 v6 (fun r9=>z5z_L2 g n v3 v4 v6 (w64 (v6 + v4)) r9 e0)) else e0 v3 v4 v5 v7)
def z5z_L9 (g:C_z5z):Nat→Int→Int→Int→Int→List G_Segment→{R:Type}→(Int→Int→Int→List G_Segment→Option R)→Option R
 | 0,_,_,_,_,_,_,_=>none
 | n + 1,v27,v28,v29,v30,v31,_,e0=>(bif (decide (v30≤v27)) then none else e0 v27 v28 v29 v31)
def z5z_L7 (g:C_z5z):Nat→Int→Int→List G_Segment→{R:Type}→(List G_Segment→Option R)→Option R
 | 0,_,_,_,_,_=>none
 | n + 1,v15,v16,v17,_,e0=>(bif (decide (v16 < v15)) then (z5z_L9 g g.N v15 v16 0 (w64 (2 * v16)) v17 (fun e32 e33 e34 e35=>(bif (decide ((w64 (e34 + e33)) < e32)) then none else z5z_L7 g n e32 (w64 (e33 * 2)) e35 e0))) else e0 v17)
def z5z_ (g:C_z5z) (a1:List G_Segment) (a2:Int) {R:Type} (k0:List G_Segment→Option R):Option R :=
 (z5z_L2 g g.N a2 20 0 20 a1 (fun e10 e11 e12 e13=>(g.z6z e13 e12 e10 (fun r14=>(z5z_L7 g g.N e10 e11 r14 (fun e36=>k0 e36))))))
noncomputable def I_z5z [Fuel]:C_z5z:=⟨NN,@z6z _⟩
noncomputable def z5z [Fuel]:T_z5z:=@z5z_ I_z5z
def ytHy (g:T_z5z):Spec A:=fun args=>match args with | [.arr 52 a1,.d (.int .i64 a2),.fn 27 []]=>fun k=>g a1 a2 (fun z0=>k (.tup []) [.arr 52 z0,.undef,.fn 27 []]) | _=>fun _=>none
def ynny:SSt:=mkSh 63 1 [(0,.own 52 0),(1,.int .i64),(2,.fn 27 []),(6,.int .i64),(7,.int .i64),(8,.int .i64)] [(0,.row 52)]
def yhEy (g:C_z5z) (n:Nat):LPT A:=fun ps=>match ps with | [.d (.int .i64 p1),.d (.int .i64 p2),.d (.int .i64 p3),.d (.int .i64 p4),.d (.sl 52 p5)]=>fun K=>z5z_L2 g n p1 p2 p3 p4 p5 (fun z0 z1 z2 z3=>K (.exit 0) (mkSt 63 1 [(0,.own 52 0),(1,.d (.int .i64 z0)),(2,.fn 27 []),(6,.d (.int .i64 z1)),(7,.d (.int .i64 z2))] [(0,some (.row 52 z3))])) | _=>fun _=>none
def yody:SSt:=mkSh 63 1 [(0,.own 52 0),(1,.int .i64),(2,.fn 27 []),(6,.int .i64),(7,.int .i64),(8,.int .i64)] [(0,.row 52)]
def yhKy (g:C_z5z) (n:Nat):LPT A:=fun ps=>match ps with | [.d (.int .i64 p1),.d (.int .i64 p2),.d (.int .i64 p3),.d (.int .i64 p4),.d (.sl 52 p5)]=>fun K=>z5z_L9 g n p1 p2 p3 p4 p5 (fun z0 z1 z2 z3=>K (.exit 4) (mkSt 63 1 [(0,.own 52 0),(1,.d (.int .i64 z0)),(2,.fn 27 []),(6,.d (.int .i64 z1)),(7,.d (.int .i64 z2))] [(0,some (.row 52 z3))])) | _=>fun _=>none
def yn1y:SSt:=mkSh 63 1 [(0,.own 52 0),(1,.int .i64),(2,.fn 27 []),(6,.int .i64)] [(0,.row 52)]
def yhTy (g:C_z5z) (n:Nat):LPT A:=fun ps=>match ps with | [.d (.int .i64 p1),.d (.int .i64 p2),.d (.sl 52 p3)]=>fun K=>z5z_L7 g n p1 p2 p3 (fun z0=>K (.exit 2) (mkSt 63 1 [(0,.own 52 0),(2,.fn 27 [])] [(0,some (.row 52 z0))])) | _=>fun _=>none
noncomputable def ypay:Code:=(Tryz.f51.body).getD .skip
noncomputable def E_z5z (g:C_z5z):Env A:=mkE [(94,yrZy g.z6z)] [] [(2,⟨[0,1,2,6,7,8],[],[0],[],[],[],[]⟩),(9,⟨[0,1,2,6,7,8],[],[0],[],[],[],[]⟩),(7,⟨[0,1,2,6],[],[0],[],[],[],[]⟩)] [(2,⟨[0,1,2,6,7],[],[0],[],[],[],[]⟩),(9,⟨[0,1,2,6,7],[],[0],[],[],[],[]⟩),(7,⟨[0,2],[],[0],[],[],[],[]⟩)] [(2,yady ynny (yhEy g g.N)),(9,yady yody (yhKy g g.N)),(7,yady yn1y (yhTy g g.N))] [] [] [] [(94,0)] [0,2]
theorem yxVy [Fuel]:yahy (E_z5z I_z5z).C:=ct_of (P:=Tryz.prog) (T:=T) (.cons yHYy .nil) (by kernel_rfl)
noncomputable def ywky:Code:=sub [1,1,0,0,0] ypay
theorem yJQy (g:C_z5z) (n:Nat):yaiy (E_z5z g) g.N ywky ynny (yhEy g) n:=by intro ps; unfold yhEy; split; exact .inr fun R K=>(by kernel_rfl); exact .inl fun R K=>rfl
theorem yHwy [Fuel]:yaby (E_z5z I_z5z) NN ywky:=yacy ynny (yhEy I_z5z) (by kernel_rfl) yxVy (cuts0 (fun _=>rfl) (by kernel_rfl)) (fun ps R K=>by unfold yhEy; split <;> (try unfold z5z_L2) <;> rfl) (yJQy I_z5z)
noncomputable def yvXy:Code:=sub [1,1,1,1,0,0,1,0,1,0,0,0] ypay
theorem yJVy (g:C_z5z) (n:Nat):yaiy (E_z5z g) g.N yvXy yody (yhKy g) n:=by intro ps; unfold yhKy; split; exact .inr fun R K=>(by kernel_rfl); exact .inl fun R K=>rfl
theorem ywuy [Fuel]:yaby (E_z5z I_z5z) NN yvXy:=yacy yody (yhKy I_z5z) (by kernel_rfl) yxVy (cuts0 (fun _=>rfl) (by kernel_rfl)) (fun ps R K=>by unfold yhKy; split <;> (try unfold z5z_L9) <;> rfl) (yJVy I_z5z)
noncomputable def ywby:Code:=sub [1,1,1,1,0,0] ypay
theorem yKIy (g:C_z5z) (n:Nat):yaiy (E_z5z g) g.N ywby yn1y (yhTy g) n:=by intro ps; unfold yhTy; split; exact .inr fun R K=>(by kernel_rfl); exact .inl fun R K=>rfl
theorem yHRy [Fuel]:yaby (E_z5z I_z5z) NN ywby:=yacy yn1y (yhTy I_z5z) (by kernel_rfl) yxVy (cutsL (fun _=>rfl) (.cons ywuy .nil) (by kernel_rfl)) (fun ps R K=>by unfold yhTy; split <;> (try unfold z5z_L7) <;> rfl) (yKIy I_z5z)
theorem yQKy (g:C_z5z):Same (ytHy (@z5z_ g)) (abody (E_z5z g) Tryz.f51 ypay 1 [0] [] g.N):=by intro args; unfold ytHy; split; exact .inr fun R k=>(by kernel_rfl); exact .inl fun R k=>rfl
theorem yQHy [Fuel]:Ok 51 (ytHy (@z5z _)):=yaay std (.cons yHYy .nil) ⟨rfl,rfl,by kernel_rfl,rfl,rfl,rfl⟩ (yQKy I_z5z) (cutsL (fun _=>rfl) (.cons yHwy (.cons ywuy (.cons yHRy .nil))) (by kernel_rfl)) Tryz.func51 (by kernel_rfl) (by kernel_rfl)
end Go.Am
