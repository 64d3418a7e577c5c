/- The functions of the program as Lean functions, each shown to be what the code computes, part 1. No condition: lemmas for the claim. -/
import Derived.Test.YtmhbhdhddlbdlaaGreatDoorF0
import Derived.Test.YtmhbhdhddlbdlaaGreatDoorFSh
set_option linter.unusedVariables false
set_option maxRecDepth 100000
namespace Go.Am
open Go Go.Proofs
abbrev ymJy:Type 1:=Int→Int→{R:Type}→(Int→Option R)→Option R
def yo6y (g:Nat) (a1 a2:Int) {R:Type} (k0:Int→Option R):Option R :=
 (bif (decide (a2 < 1)) then k0 0 else (bif (a2 == 0) then none else (bif (decide ((Int.tmod a1 a2) < 0)) then k0 (w64 ((Int.tmod a1 a2) + a2)) else k0 (Int.tmod a1 a2))))
noncomputable def M_Below [Fuel]:ymJy:=@yo6y NN
def yhqy (g:ymJy):Spec A:=fun args=>match args with | [.d (.int .i64 a1),.d (.int .i64 a2)]=>fun k=>g a1 a2 (fun z0=>k (.d (.int .i64 z0)) [.undef,.undef]) | _=>fun _=>none
noncomputable def yGxy:Code:=(Tryz.f61.body).getD .skip
noncomputable def yC7y (g:Nat):Env A:=mkE [] [] [] [] [] [] [] [] [] []
theorem yAhy (g:Nat):Same (yhqy (@yo6y g)) (abody (yC7y g) Tryz.f61 yGxy 0 [] [.asis] g):=by intro args; unfold yhqy; split; exact .inr fun R k=>(by kernel_rfl); exact .inl fun R k=>rfl
theorem yz3y [Fuel]:Ok 61 (yhqy (@M_Below _)):=yaay std .nil ⟨rfl,rfl,by kernel_rfl,rfl,rfl,rfl⟩ (yAhy NN) (cuts0 (fun _=>rfl) (by kernel_rfl)) Tryz.func61 (by kernel_rfl) (by kernel_rfl)
abbrev yhJy:Type 1:=G_Stream→Int→{R:Type}→(Int→G_Stream→Option R)→Option R
structure C_z51z where
 N:Nat
 M_Below:ymJy
def z51z_ (g:C_z51z) (a1:G_Stream) (a2:Int) {R:Type} (k0:Int→G_Stream→Option R):Option R :=
 (bif ((a1.f_L.length:Int) == 0) then (g.M_Below (w64 ((w64 (a1.f_at + 1)) * 7919)) a2 (fun r3=>k0 r3 (⟨a1.f_L,(w64 (a1.f_at + 1))⟩:G_Stream))) else (bif ((a1.f_L.length:Int) == 0) then none else (bif ((a1.f_L.length:Int) == 0) then none else (get_ a1.f_L (Int.tmod (w64 ((w64 (a1.f_at + 1)) - 1)) (a1.f_L.length:Int)) fun x4=>(g.M_Below x4 1073741824 (fun r5=>(g.M_Below (w64 (r5 + (w64 ((w64 (Int.tdiv (w64 ((w64 (a1.f_at + 1)) - 1)) (a1.f_L.length:Int))) * (w64 (7919 + (Int.tmod (w64 ((w64 (a1.f_at + 1)) - 1)) (a1.f_L.length:Int)))))))) a2 (fun r6=>k0 r6 (⟨a1.f_L,(w64 (a1.f_at + 1))⟩:G_Stream)))))))))
noncomputable def ywAy [Fuel]:C_z51z:=⟨NN,@M_Below _⟩
noncomputable def z51z [Fuel]:yhJy:=@z51z_ ywAy
def yeAy (g:yhJy):Spec A:=fun args=>match args with | [.box [.d (.sl 3 a1),.d (.int .i64 a2)],.d (.int .i64 a3)]=>fun k=>g ⟨a1,a2⟩ a3 (fun z0 z1=>k (.d (.int .i64 z0)) [.box [.d (.sl 3 z1.f_L),.d (.int .i64 z1.f_at)],.undef]) | _=>fun _=>none
noncomputable def yIay:Code:=(Tryz.f23.body).getD .skip
noncomputable def yKFy (g:C_z51z):Env A:=mkE [(61,yhqy g.M_Below)] [] [] [] [] [] [] [] [] [0]
theorem yGQy (g:C_z51z):Same (yeAy (@z51z_ g)) (abody (yKFy g) Tryz.f23 yIay 1 [0] [.asis] g.N):=by intro args; unfold yeAy; split; exact .inr fun R k=>(by kernel_rfl); exact .inl fun R k=>rfl
theorem yhBy [Fuel]:Ok 23 (yeAy (@z51z _)):=yaay std (.cons yz3y .nil) ⟨rfl,rfl,by kernel_rfl,rfl,rfl,rfl⟩ (yGQy ywAy) (cuts0 (fun _=>rfl) (by kernel_rfl)) Tryz.func23 (by kernel_rfl) (by kernel_rfl)
abbrev yqPy:Type 1:=G_Stream→Int→Int→{R:Type}→(Int→G_Stream→Option R)→Option R
structure C_z69z where
 N:Nat
 z51z:yhJy
def z69z_ (g:C_z69z) (a1:G_Stream) (a2 a3:Int) {R:Type} (k0:Int→G_Stream→Option R):Option R :=
 (bif (decide (a3 < a2)) then k0 a2 a1 else (g.z51z a1 (w64 ((w64 (a3 - a2)) + 1)) (fun r4 r5=>k0 (w64 (a2 + r4)) r5)))
noncomputable def ywKy [Fuel]:C_z69z:=⟨NN,@z51z _⟩
noncomputable def z69z [Fuel]:yqPy:=@z69z_ ywKy
def yjAy (g:yqPy):Spec A:=fun args=>match args with | [.box [.d (.sl 3 a1),.d (.int .i64 a2)],.d (.int .i64 a3),.d (.int .i64 a4)]=>fun k=>g ⟨a1,a2⟩ a3 a4 (fun z0 z1=>k (.d (.int .i64 z0)) [.box [.d (.sl 3 z1.f_L),.d (.int .i64 z1.f_at)],.undef,.undef]) | _=>fun _=>none
noncomputable def yK7y:Code:=(Tryz.f6.body).getD .skip
noncomputable def yKey (g:C_z69z):Env A:=mkE [(23,yeAy g.z51z)] [] [] [] [] [] [] [] [] [0]
theorem yGgy (g:C_z69z):Same (yjAy (@z69z_ g)) (abody (yKey g) Tryz.f6 yK7y 1 [0] [.asis] g.N):=by intro args; unfold yjAy; split; exact .inr fun R k=>(by kernel_rfl); exact .inl fun R k=>rfl
theorem yzfy [Fuel]:Ok 6 (yjAy (@z69z _)):=yaay std (.cons yhBy .nil) ⟨rfl,rfl,by kernel_rfl,rfl,rfl,rfl⟩ (yGgy ywKy) (cuts0 (fun _=>rfl) (by kernel_rfl)) Tryz.func6 (by kernel_rfl) (by kernel_rfl)
abbrev yp6y:Type 1:=G_Stream→List Int→{R:Type}→(Int→G_Stream→Option R)→Option R
structure C_z73z where
 N:Nat
 z51z:yhJy
def z73z_ (g:C_z73z) (a1:G_Stream) (a2:List Int) {R:Type} (k0:Int→G_Stream→Option R):Option R :=
 (g.z51z a1 (a2.length:Int) (fun r3 r4=>(get_ a2 r3 fun x5=>k0 x5 r4)))
noncomputable def yvDy [Fuel]:C_z73z:=⟨NN,@z51z _⟩
noncomputable def z73z [Fuel]:yp6y:=@z73z_ yvDy
def yjKy (g:yp6y):Spec A:=fun args=>match args with | [.box [.d (.sl 3 a1),.d (.int .i64 a2)],.d (.sl 3 a3)]=>fun k=>g ⟨a1,a2⟩ a3 (fun z0 z1=>k (.d (.int .i64 z0)) [.box [.d (.sl 3 z1.f_L),.d (.int .i64 z1.f_at)],.undef]) | _=>fun _=>none
noncomputable def yIqy:Code:=(Tryz.f51.body).getD .skip
noncomputable def yKJy (g:C_z73z):Env A:=mkE [(23,yeAy g.z51z)] [] [] [] [] [] [] [] [] [0]
theorem yIJy (g:C_z73z):Same (yjKy (@z73z_ g)) (abody (yKJy g) Tryz.f51 yIqy 1 [0] [.asis] g.N):=by intro args; unfold yjKy; split; exact .inr fun R k=>(by kernel_rfl); exact .inl fun R k=>rfl
theorem ysky [Fuel]:Ok 51 (yjKy (@z73z _)):=yaay std (.cons yhBy .nil) ⟨rfl,rfl,by kernel_rfl,rfl,rfl,rfl⟩ (yIJy yvDy) (cuts0 (fun _=>rfl) (by kernel_rfl)) Tryz.func51 (by kernel_rfl) (by kernel_rfl)
abbrev ymxy:Type 1:=G_Stream→Int→{R:Type}→(Bool→G_Stream→Option R)→Option R
structure C_z63z where
 N:Nat
 z51z:yhJy
def z63z_ (g:C_z63z) (a1:G_Stream) (a2:Int) {R:Type} (k0:Bool→G_Stream→Option R):Option R :=
 (g.z51z a1 a2 (fun r3 r4=>k0 (r3 == 0) r4))
noncomputable def ywGy [Fuel]:C_z63z:=⟨NN,@z51z _⟩
noncomputable def z63z [Fuel]:ymxy:=@z63z_ ywGy
def yhEy (g:ymxy):Spec A:=fun args=>match args with | [.box [.d (.sl 3 a1),.d (.int .i64 a2)],.d (.int .i64 a3)]=>fun k=>g ⟨a1,a2⟩ a3 (fun z0 z1=>k (.d (.bool z0)) [.box [.d (.sl 3 z1.f_L),.d (.int .i64 z1.f_at)],.undef]) | _=>fun _=>none
noncomputable def yJny:Code:=(Tryz.f54.body).getD .skip
noncomputable def yKUy (g:C_z63z):Env A:=mkE [(23,yeAy g.z51z)] [] [] [] [] [] [] [] [] [0]
theorem yI4y (g:C_z63z):Same (yhEy (@z63z_ g)) (abody (yKUy g) Tryz.f54 yJny 1 [0] [.asis] g.N):=by intro args; unfold yhEy; split; exact .inr fun R k=>(by kernel_rfl); exact .inl fun R k=>rfl
theorem ymZy [Fuel]:Ok 54 (yhEy (@z63z _)):=yaay std (.cons yhBy .nil) ⟨rfl,rfl,by kernel_rfl,rfl,rfl,rfl⟩ (yI4y ywGy) (cuts0 (fun _=>rfl) (by kernel_rfl)) Tryz.func54 (by kernel_rfl) (by kernel_rfl)
abbrev yp9y:Type 1:=G_Stream→List (List UInt8)→{R:Type}→(List UInt8→G_Stream→Option R)→Option R
structure C_z70z where
 N:Nat
 z51z:yhJy
def z70z_ (g:C_z70z) (a1:G_Stream) (a2:List (List UInt8)) {R:Type} (k0:List UInt8→G_Stream→Option R):Option R :=
 (g.z51z a1 (a2.length:Int) (fun r3 r4=>(get_ a2 r3 fun x5=>k0 x5 r4)))
noncomputable def ywTy [Fuel]:C_z70z:=⟨NN,@z51z _⟩
noncomputable def z70z [Fuel]:yp9y:=@z70z_ ywTy
def yjfy (g:yp9y):Spec A:=fun args=>match args with | [.box [.d (.sl 3 a1),.d (.int .i64 a2)],.d (.sl 9 a3)]=>fun k=>g ⟨a1,a2⟩ a3 (fun z0 z1=>k (.d (.str z0)) [.box [.d (.sl 3 z1.f_L),.d (.int .i64 z1.f_at)],.undef]) | _=>fun _=>none
noncomputable def yI8y:Code:=(Tryz.f53.body).getD .skip
noncomputable def yLMy (g:C_z70z):Env A:=mkE [(23,yeAy g.z51z)] [] [] [] [] [] [] [] [] [0]
theorem yHOy (g:C_z70z):Same (yjfy (@z70z_ g)) (abody (yLMy g) Tryz.f53 yI8y 1 [0] [.asis] g.N):=by intro args; unfold yjfy; split; exact .inr fun R k=>(by kernel_rfl); exact .inl fun R k=>rfl
theorem ysdy [Fuel]:Ok 53 (yjfy (@z70z _)):=yaay std (.cons yhBy .nil) ⟨rfl,rfl,by kernel_rfl,rfl,rfl,rfl⟩ (yHOy ywTy) (cuts0 (fun _=>rfl) (by kernel_rfl)) Tryz.func53 (by kernel_rfl) (by kernel_rfl)
abbrev yuoy:Type 1:=G_Stream→{R:Type}→(List UInt8→G_Stream→Option R)→Option R
structure C_z75z where
 N:Nat
 z70z:yp9y
 z63z:ymxy
def z75z_ (g:C_z75z) (a1:G_Stream) {R:Type} (k0:List UInt8→G_Stream→Option R):Option R :=
 (g.z63z a1 60 (fun r2 r3=>(bif r2 then (g.z70z r3 [[],[107,49],[75,49,65,66],[107,49,97,98,47],[49,97],[107,49,97,98,47,109,109,47,112]] (fun r4 r5=>k0 r4 r5)) else (g.z70z r3 [[107,49,97,98],[107,49,97,97],[107,49,97,98,47,52],[111,104,50,97,98,99],[111,104,50,97,98,100],[119,49,97,119],[110,49,109,109],[103,51,120,121,122,47,112]] (fun r6 r7=>k0 r6 r7)))))
noncomputable def yrby [Fuel]:C_z75z:=⟨NN,@z70z _,@z63z _⟩
noncomputable def z75z [Fuel]:yuoy:=@z75z_ yrby
def ym0y (g:yuoy):Spec A:=fun args=>match args with | [.box [.d (.sl 3 a1),.d (.int .i64 a2)]]=>fun k=>g ⟨a1,a2⟩ (fun z0 z1=>k (.d (.str z0)) [.box [.d (.sl 3 z1.f_L),.d (.int .i64 z1.f_at)]]) | _=>fun _=>none
noncomputable def yJQy:Code:=(Tryz.f52.body).getD .skip
noncomputable def yLoy (g:C_z75z):Env A:=mkE [(53,yjfy g.z70z),(54,yhEy g.z63z)] [(6,[1]),(9,[2])] [] [] [] [] [] [] [] [0]
theorem yHYy (g:C_z75z):Same (ym0y (@z75z_ g)) (abody (yLoy g) Tryz.f52 yJQy 3 [0] [.asis] g.N):=by intro args; unfold ym0y; split; exact .inr fun R k=>(by kernel_rfl); exact .inl fun R k=>rfl
theorem yySy [Fuel]:Ok 52 (ym0y (@z75z _)):=yaay std (.cons ysdy (.cons ymZy .nil)) ⟨rfl,rfl,by kernel_rfl,rfl,rfl,rfl⟩ (yHYy yrby) (cuts0 (fun _=>rfl) (by kernel_rfl)) Tryz.func52 (by kernel_rfl) (by kernel_rfl)
abbrev yh1y:Type 1:=G_Stream→Int→Int→{R:Type}→(Int→G_Stream→Option R)→Option R
structure C_Stream_Odd where
 N:Nat
 z69z:yqPy
 z73z:yp6y
 z63z:ymxy
def ygvy (g:C_Stream_Odd) (a1:G_Stream) (a2 a3:Int) {R:Type} (k0:Int→G_Stream→Option R):Option R :=
 (g.z63z a1 12 (fun r4 r5=>(bif r4 then (g.z73z r5 [(w64 (a2 - 1)),(w64 (a3 + 1)),a2,a3,(-1099511627776),1099511627776] (fun r6 r7=>k0 r6 r7)) else (g.z69z r5 a2 a3 (fun r8 r9=>k0 r8 r9)))))
noncomputable def yeOy [Fuel]:C_Stream_Odd:=⟨NN,@z69z _,@z73z _,@z63z _⟩
noncomputable def Stream_Odd [Fuel]:yh1y:=@ygvy yeOy
def yd6y (g:yh1y):Spec A:=fun args=>match args with | [.box [.d (.sl 3 a1),.d (.int .i64 a2)],.d (.int .i64 a3),.d (.int .i64 a4)]=>fun k=>g ⟨a1,a2⟩ a3 a4 (fun z0 z1=>k (.d (.int .i64 z0)) [.box [.d (.sl 3 z1.f_L),.d (.int .i64 z1.f_at)],.undef,.undef]) | _=>fun _=>none
noncomputable def yI7y:Code:=(Tryz.f55.body).getD .skip
noncomputable def yt8y (g:C_Stream_Odd):Env A:=mkE [(6,yjAy g.z69z),(51,yjKy g.z73z),(54,yhEy g.z63z)] [(16,[1])] [] [] [] [] [] [] [] [0]
theorem ytty (g:C_Stream_Odd):Same (yd6y (@ygvy g)) (abody (yt8y g) Tryz.f55 yI7y 2 [0] [.asis] g.N):=by intro args; unfold yd6y; split; exact .inr fun R k=>(by kernel_rfl); exact .inl fun R k=>rfl
theorem yljy [Fuel]:Ok 55 (yd6y (@Stream_Odd _)):=yaay std (.cons yzfy (.cons ysky (.cons ymZy .nil))) ⟨rfl,rfl,by kernel_rfl,rfl,rfl,rfl⟩ (ytty yeOy) (cuts0 (fun _=>rfl) (by kernel_rfl)) Tryz.func55 (by kernel_rfl) (by kernel_rfl)
abbrev ywly:Type 1:=Int→{R:Type}→(Bool→Option R)→Option R
def z71z_ (g:Nat) (a1:Int) {R:Type} (k0:Bool→Option R):Option R :=
 k0 (a1 != a1)
noncomputable def z71z [Fuel]:ywly:=@z71z_ NN
def yety (g:ywly):Spec A:=fun args=>match args with | [.d (.int .i64 a1)]=>fun k=>g a1 (fun z0=>k (.d (.bool z0)) [.undef]) | _=>fun _=>none
noncomputable def yv7y:Code:=(Tryz.f121.body).getD .skip
noncomputable def yKny (g:Nat):Env A:=mkE [] [] [] [] [] [] [] [] [] []
theorem yHqy (g:Nat):Same (yety (@z71z_ g)) (abody (yKny g) Tryz.f121 yv7y 0 [] [.asis] g):=by intro args; unfold yety; split; exact .inr fun R k=>(by kernel_rfl); exact .inl fun R k=>rfl
theorem yJay [Fuel]:Ok 121 (yety (@z71z _)):=yaay std .nil ⟨rfl,rfl,by kernel_rfl,rfl,rfl,rfl⟩ (yHqy NN) (cuts0 (fun _=>rfl) (by kernel_rfl)) Tryz.func121 (by kernel_rfl) (by kernel_rfl)
noncomputable def yHiy (g:Nat):Env A:=mkED [] [] [] [] [] [] [] [] [] []
theorem yFIy (g:Nat):Same (yety (@z71z_ g)) (abody (yHiy g) Tryz.f121 yv7y 0 [] [.asis] g):=by intro args; unfold yety; split; exact .inr fun R k=>(by kernel_rfl); exact .inl fun R k=>rfl
theorem yFTy [Fuel]:OkD 121 (yety (@z71z _)):=yaay stdD .nil ⟨rfl,rfl,by kernel_rfl,rfl,rfl,rfl⟩ (yFIy NN) (cuts0 (fun _=>rfl) (by kernel_rfl)) Tryz.func121 (by kernel_rfl) (by kernel_rfl)
abbrev ygLy:Type 1:=Int→Int→{R:Type}→(Int→Option R)→Option R
structure C_z14z where
 N:Nat
 z71z:ywly
def z14z_ (g:C_z14z) (a1 a2:Int) {R:Type} (k0:Int→Option R):Option R :=
 (g.z71z a1 (fun r3=>(g.z71z a2 (fun r4=>(bif r3 then (bif r4 then k0 0 else k0 (-1)) else (bif r4 then k0 1 else (bif (decide (a1 < a2)) then k0 (-1) else (bif (decide (a1 > a2)) then k0 1 else k0 0))))))))
noncomputable def yp5y [Fuel]:C_z14z:=⟨NN,@z71z _⟩
noncomputable def z14z [Fuel]:ygLy:=@z14z_ yp5y
def ybDy (g:ygLy):Spec A:=fun args=>match args with | [.d (.int .i64 a1),.d (.int .i64 a2)]=>fun k=>g a1 a2 (fun z0=>k (.d (.int .i64 z0)) [.undef,.undef]) | _=>fun _=>none
noncomputable def yzQy:Code:=(Tryz.f69.body).getD .skip
noncomputable def yK8y (g:C_z14z):Env A:=mkE [(121,yety g.z71z)] [] [] [] [] [] [] [] [] []
theorem yJvy (g:C_z14z):Same (ybDy (@z14z_ g)) (abody (yK8y g) Tryz.f69 yzQy 0 [] [.asis] g.N):=by intro args; unfold ybDy; split; exact .inr fun R k=>(by kernel_rfl); exact .inl fun R k=>rfl
theorem ygby [Fuel]:Ok 69 (ybDy (@z14z _)):=yaay std (.cons yJay .nil) ⟨rfl,rfl,by kernel_rfl,rfl,rfl,rfl⟩ (yJvy yp5y) (cuts0 (fun _=>rfl) (by kernel_rfl)) Tryz.func69 (by kernel_rfl) (by kernel_rfl)
noncomputable def yGyy (g:C_z14z):Env A:=mkED [(121,yety g.z71z)] [] [] [] [] [] [] [] [] []
theorem yE7y (g:C_z14z):Same (ybDy (@z14z_ g)) (abody (yGyy g) Tryz.f69 yzQy 0 [] [.asis] g.N):=by intro args; unfold ybDy; split; exact .inr fun R k=>(by kernel_rfl); exact .inl fun R k=>rfl
theorem ypcy [Fuel]:OkD 69 (ybDy (@z14z _)):=yaay stdD (.cons yFTy .nil) ⟨rfl,rfl,by kernel_rfl,rfl,rfl,rfl⟩ (yE7y yp5y) (cuts0 (fun _=>rfl) (by kernel_rfl)) Tryz.func69 (by kernel_rfl) (by kernel_rfl)
abbrev yu1y:Type 1:=List Int→List Int→{R:Type}→(Int→Option R)→Option R
structure C_z23z where
 N:Nat
 z14z:ygLy
def z23z_L2 (g:C_z23z):Nat→List Int→List Int→List Int→Int→Int→{R:Type}→(List Int→List Int→Int→Option R)→(List Int→List Int→Option R)→Option R
 | 0,_,_,_,_,_,_,_,_=>none
 | n + 1,v3,v4,v5,v6,v7,_,e0,e1=>(bif (decide (v7 < v6)) then (get_ v5 v7 fun x11=>(bif (decide (v7 ≥ (v4.length:Int))) then e0 v3 v4 1 else (get_ v4 v7 fun x12=>(g.z14z x11 x12 (fun r13=>(bif (r13 != 0) then e0 v3 v4 r13 else z23z_L2 g n v3 v4 v5 v6 (w64 (v7 + 1)) e0 e1)))))) else e1 v3 v4)
def z23z_ (g:C_z23z) (a1 a2:List Int) {R:Type} (k0:Int→Option R):Option R :=
 (z23z_L2 g g.N a1 a2 a1 (a1.length:Int) 0 (fun e14 e15 e16=>k0 e16) (fun e17 e18=>(bif (decide ((e17.length:Int) < (e18.length:Int))) then k0 (-1) else k0 0)))
noncomputable def yg0y [Fuel]:C_z23z:=⟨NN,@z14z _⟩
noncomputable def z23z [Fuel]:yu1y:=@z23z_ yg0y
def ymSy (g:yu1y):Spec A:=fun args=>match args with | [.d (.sl 3 a1),.d (.sl 3 a2)]=>fun k=>g a1 a2 (fun z0=>k (.d (.int .i64 z0)) [.undef,.undef]) | _=>fun _=>none
def yk2y:SSt:=mkSh 36 0 [(0,.sl 3),(1,.sl 3),(9,.sl 3),(10,.int .i64),(11,.int .i64)] []
def ye2y (g:C_z23z) (n:Nat):LPT A:=fun ps=>match ps with | [.d (.sl 3 p1),.d (.sl 3 p2),.d (.sl 3 p3),.d (.int .i64 p4),.d (.int .i64 p5)]=>fun K=>z23z_L2 g n p1 p2 p3 p4 p5 (fun z0 z1 z2=>K .ret (mkSt 36 0 [(0,.d (.sl 3 z0)),(1,.d (.sl 3 z1)),(4,.d (.int .i64 z2))] [])) (fun z0 z1=>K (.exit 0) (mkSt 36 0 [(0,.d (.sl 3 z0)),(1,.d (.sl 3 z1))] [])) | _=>fun _=>none
noncomputable def yvBy:Code:=(Tryz.f107.body).getD .skip
noncomputable def ypxy (g:C_z23z):Env A:=mkE [(69,ybDy g.z14z)] [] [(2,⟨[0,1,9,10,11],[],[],[],[],[],[]⟩)] [(2,⟨[0,1,4],[],[],[],[],[],[]⟩)] [(2,yafy yk2y (ye2y g g.N))] [] [] [] [] []
theorem yJqy [Fuel]:yagy (ypxy yg0y).C:=ct_of (P:=Tryz.prog) (T:=T) (.cons ygby .nil) (by kernel_rfl)
noncomputable def ypUy:Code:=sub [1,0,1,0,0] yvBy
theorem yB9y (g:C_z23z) (n:Nat):yaly (ypxy g) g.N ypUy yk2y (ye2y g) n:=by intro ps; unfold ye2y; split; exact .inr fun R K=>(by kernel_rfl); exact .inl fun R K=>rfl
theorem yAty [Fuel]:yaey (ypxy yg0y) NN ypUy:=yahy yk2y (ye2y yg0y) (by kernel_rfl) yJqy (cuts0 (fun _=>rfl) (by kernel_rfl)) (fun ps R K=>by unfold ye2y; split <;> (try unfold z23z_L2) <;> rfl) (yB9y yg0y)
theorem yG2y (g:C_z23z):Same (ymSy (@z23z_ g)) (abody (ypxy g) Tryz.f107 yvBy 0 [] [.asis] g.N):=by intro args; unfold ymSy; split; exact .inr fun R k=>(by kernel_rfl); exact .inl fun R k=>rfl
theorem yIVy [Fuel]:Ok 107 (ymSy (@z23z _)):=yaay std (.cons ygby .nil) ⟨rfl,rfl,by kernel_rfl,rfl,rfl,rfl⟩ (yG2y yg0y) (cutsL (fun _=>rfl) (.cons yAty .nil) (by kernel_rfl)) Tryz.func107 (by kernel_rfl) (by kernel_rfl)
abbrev ywHy:Type 1:=List UInt8→{R:Type}→(Bool→Option R)→Option R
def z80z_ (g:Nat) (a1:List UInt8) {R:Type} (k0:Bool→Option R):Option R :=
 k0 (!(a1 == a1))
noncomputable def z80z [Fuel]:ywHy:=@z80z_ NN
def ynHy (g:ywHy):Spec A:=fun args=>match args with | [.d (.str a1)]=>fun k=>g a1 (fun z0=>k (.d (.bool z0)) [.undef]) | _=>fun _=>none
noncomputable def yEwy:Code:=(Tryz.f218.body).getD .skip
noncomputable def yK5y (g:Nat):Env A:=mkE [] [] [] [] [] [] [] [] [] []
theorem yHry (g:Nat):Same (ynHy (@z80z_ g)) (abody (yK5y g) Tryz.f218 yEwy 0 [] [.asis] g):=by intro args; unfold ynHy; split; exact .inr fun R k=>(by kernel_rfl); exact .inl fun R k=>rfl
theorem yJXy [Fuel]:Ok 218 (ynHy (@z80z _)):=yaay std .nil ⟨rfl,rfl,by kernel_rfl,rfl,rfl,rfl⟩ (yHry NN) (cuts0 (fun _=>rfl) (by kernel_rfl)) Tryz.func218 (by kernel_rfl) (by kernel_rfl)
abbrev ywYy:Type 1:=List UInt8→List UInt8→{R:Type}→(Int→Option R)→Option R
structure C_z58z where
 N:Nat
 z80z:ywHy
def z58z_ (g:C_z58z) (a1 a2:List UInt8) {R:Type} (k0:Int→Option R):Option R :=
 (g.z80z a1 (fun r3=>(g.z80z a2 (fun r4=>(bif r3 then (bif r4 then k0 0 else k0 (-1)) else (bif r4 then k0 1 else (bif (Op.bytesLess a1 a2) then k0 (-1) else (bif (!(Op.bytesLess a1 a2 || a1 == a2)) then k0 1 else k0 0))))))))
noncomputable def ywcy [Fuel]:C_z58z:=⟨NN,@z80z _⟩
noncomputable def z58z [Fuel]:ywYy:=@z58z_ ywcy
def ynqy (g:ywYy):Spec A:=fun args=>match args with | [.d (.str a1),.d (.str a2)]=>fun k=>g a1 a2 (fun z0=>k (.d (.int .i64 z0)) [.undef,.undef]) | _=>fun _=>none
noncomputable def yFFy:Code:=(Tryz.f168.body).getD .skip
noncomputable def yLIy (g:C_z58z):Env A:=mkE [(218,ynHy g.z80z)] [] [] [] [] [] [] [] [] []
theorem yGYy (g:C_z58z):Same (ynqy (@z58z_ g)) (abody (yLIy g) Tryz.f168 yFFy 0 [] [.asis] g.N):=by intro args; unfold ynqy; split; exact .inr fun R k=>(by kernel_rfl); exact .inl fun R k=>rfl
theorem yzGy [Fuel]:Ok 168 (ynqy (@z58z _)):=yaay std (.cons yJXy .nil) ⟨rfl,rfl,by kernel_rfl,rfl,rfl,rfl⟩ (yGYy ywcy) (cuts0 (fun _=>rfl) (by kernel_rfl)) Tryz.func168 (by kernel_rfl) (by kernel_rfl)
abbrev yt0y:Type 1:=List (List UInt8)→List (List UInt8)→{R:Type}→(Int→Option R)→Option R
structure C_z17z where
 N:Nat
 z58z:ywYy
def z17z_L2 (g:C_z17z):Nat→List (List UInt8)→List (List UInt8)→List (List UInt8)→Int→Int→{R:Type}→(List (List UInt8)→List (List UInt8)→Int→Option R)→(List (List UInt8)→List (List UInt8)→Option R)→Option R
 | 0,_,_,_,_,_,_,_,_=>none
 | n + 1,v3,v4,v5,v6,v7,_,e0,e1=>(bif (decide (v7 < v6)) then (get_ v5 v7 fun x11=>(bif (decide (v7 ≥ (v4.length:Int))) then e0 v3 v4 1 else (get_ v4 v7 fun x12=>(g.z58z x11 x12 (fun r13=>(bif (r13 != 0) then e0 v3 v4 r13 else z17z_L2 g n v3 v4 v5 v6 (w64 (v7 + 1)) e0 e1)))))) else e1 v3 v4)
def z17z_ (g:C_z17z) (a1 a2:List (List UInt8)) {R:Type} (k0:Int→Option R):Option R :=
 (z17z_L2 g g.N a1 a2 a1 (a1.length:Int) 0 (fun e14 e15 e16=>k0 e16) (fun e17 e18=>(bif (decide ((e17.length:Int) < (e18.length:Int))) then k0 (-1) else k0 0)))
noncomputable def ygDy [Fuel]:C_z17z:=⟨NN,@z58z _⟩
noncomputable def z17z [Fuel]:yt0y:=@z17z_ ygDy
def ym4y (g:yt0y):Spec A:=fun args=>match args with | [.d (.sl 9 a1),.d (.sl 9 a2)]=>fun k=>g a1 a2 (fun z0=>k (.d (.int .i64 z0)) [.undef,.undef]) | _=>fun _=>none
def ykXy:SSt:=mkSh 36 0 [(0,.sl 9),(1,.sl 9),(9,.sl 9),(10,.int .i64),(11,.int .i64)] []
def yeXy (g:C_z17z) (n:Nat):LPT A:=fun ps=>match ps with | [.d (.sl 9 p1),.d (.sl 9 p2),.d (.sl 9 p3),.d (.int .i64 p4),.d (.int .i64 p5)]=>fun K=>z17z_L2 g n p1 p2 p3 p4 p5 (fun z0 z1 z2=>K .ret (mkSt 36 0 [(0,.d (.sl 9 z0)),(1,.d (.sl 9 z1)),(4,.d (.int .i64 z2))] [])) (fun z0 z1=>K (.exit 0) (mkSt 36 0 [(0,.d (.sl 9 z0)),(1,.d (.sl 9 z1))] [])) | _=>fun _=>none
noncomputable def yvky:Code:=(Tryz.f108.body).getD .skip
noncomputable def yqUy (g:C_z17z):Env A:=mkE [(168,ynqy g.z58z)] [] [(2,⟨[0,1,9,10,11],[],[],[],[],[],[]⟩)] [(2,⟨[0,1,4],[],[],[],[],[],[]⟩)] [(2,yafy ykXy (yeXy g g.N))] [] [] [] [] []
theorem yG4y [Fuel]:yagy (yqUy ygDy).C:=ct_of (P:=Tryz.prog) (T:=T) (.cons yzGy .nil) (by kernel_rfl)
noncomputable def yqQy:Code:=sub [1,0,1,0,0] yvky
theorem yDdy (g:C_z17z) (n:Nat):yaly (yqUy g) g.N yqQy ykXy (yeXy g) n:=by intro ps; unfold yeXy; split; exact .inr fun R K=>(by kernel_rfl); exact .inl fun R K=>rfl
theorem yA5y [Fuel]:yaey (yqUy ygDy) NN yqQy:=yahy ykXy (yeXy ygDy) (by kernel_rfl) yG4y (cuts0 (fun _=>rfl) (by kernel_rfl)) (fun ps R K=>by unfold yeXy; split <;> (try unfold z17z_L2) <;> rfl) (yDdy ygDy)
theorem yJky (g:C_z17z):Same (ym4y (@z17z_ g)) (abody (yqUy g) Tryz.f108 yvky 0 [] [.asis] g.N):=by intro args; unfold ym4y; split; exact .inr fun R k=>(by kernel_rfl); exact .inl fun R k=>rfl
theorem yGOy [Fuel]:Ok 108 (ym4y (@z17z _)):=yaay std (.cons yzGy .nil) ⟨rfl,rfl,by kernel_rfl,rfl,rfl,rfl⟩ (yJky ygDy) (cutsL (fun _=>rfl) (.cons yA5y .nil) (by kernel_rfl)) Tryz.func108 (by kernel_rfl) (by kernel_rfl)
abbrev T_z2z:Type 1:=G_Spot→G_Spot→{R:Type}→(Int→Option R)→Option R
structure C_z2z where
 N:Nat
 z23z:yu1y
 z17z:yt0y
def z2z_ (g:C_z2z) (a1 a2:G_Spot) {R:Type} (k0:Int→Option R):Option R :=
 (g.z23z [a1.f_At,a1.f_Hertz] [a2.f_At,a2.f_Hertz] (fun r3=>(bif (r3 != 0) then k0 r3 else (g.z17z [a1.f_Call,a1.f_By] [a2.f_Call,a2.f_By] (fun r4=>k0 r4)))))
noncomputable def I_z2z [Fuel]:C_z2z:=⟨NN,@z23z _,@z17z _⟩
noncomputable def z2z [Fuel]:T_z2z:=@z2z_ I_z2z
def ymDy (g:T_z2z):Spec A:=fun args=>match args with | [.agg [.d (.int .i64 a1),.d (.int .i64 a2),.d (.str a3),.d (.str a4)],.agg [.d (.int .i64 a5),.d (.int .i64 a6),.d (.str a7),.d (.str a8)]]=>fun k=>g ⟨a1,a2,a3,a4⟩ ⟨a5,a6,a7,a8⟩ (fun z0=>k (.d (.int .i64 z0)) [.undef,.undef]) | _=>fun _=>none
noncomputable def yGwy:Code:=(Tryz.f57.body).getD .skip
noncomputable def E_z2z (g:C_z2z):Env A:=mkE [(107,ymSy g.z23z),(108,ym4y g.z17z)] [(2,[0]),(3,[1]),(10,[2]),(15,[3]),(24,[4]),(29,[5])] [] [] [] [] [] [] [] []
theorem yJ3y (g:C_z2z):Same (ymDy (@z2z_ g)) (abody (E_z2z g) Tryz.f57 yGwy 6 [] [.asis] g.N):=by intro args; unfold ymDy; split; exact .inr fun R k=>(by kernel_rfl); exact .inl fun R k=>rfl
theorem ypGy [Fuel]:Ok 57 (ymDy (@z2z _)):=yaay std (.cons yIVy (.cons yGOy .nil)) ⟨rfl,rfl,by kernel_rfl,rfl,rfl,rfl⟩ (yJ3y I_z2z) (cuts0 (fun _=>rfl) (by kernel_rfl)) Tryz.func57 (by kernel_rfl) (by kernel_rfl)
abbrev T_z1z:Type 1:=List G_Spot→Int→Int→{R:Type}→(List G_Spot→Option R)→Option R
structure C_z1z where
 N:Nat
 z2z:T_z2z
def z1z_L4 (g:C_z1z):Nat→Int→Int→Int→Int→List G_Spot→{R:Type}→(Int→Int→Int→List G_Spot→Option R)→Option R
 | 0,_,_,_,_,_,_,_=>none
 | n + 1,v31,v32,v33,v34,v35,_,e0=>(bif (decide (v34 > v31)) then (inr v35 v34 (at_ v35 v34 fun x43=>(inr v35 (w64 (v34 - 1)) (at_ v35 (w64 (v34 - 1)) fun x44=>(g.z2z x43 x44 (fun r45=>(bif (decide (r45 < 0)) then (inr v35 (w64 (v34 - 1)) (at_ v35 (w64 (v34 - 1)) fun x46=>(inr v35 v34 (at_ v35 v34 fun x47=>(inr v35 v34 (at_ v35 v34 fun x48=>(inr (set_ v35 v34 x46) (w64 (v34 - 1)) (at_ (set_ v35 v34 x46) (w64 (v34 - 1)) fun x49=>z1z_L4 g n v31 v32 v33 (w64 (v34 - 1)) (set_ (set_ v35 v34 x46) (w64 (v34 - 1)) x47) e0)))))))) else e0 v31 v32 v33 v35))))))) else e0 v31 v32 v33 v35)
def z1z_L1 (g:C_z1z):Nat→Int→Int→Int→List G_Spot→{R:Type}→(List G_Spot→Option R)→Option R
 | 0,_,_,_,_,_,_=>none
 | n + 1,v4,v5,v6,v7,_,e0=>(bif (decide (v6 < v5)) then (z1z_L4 g g.N v4 v5 v6 v6 v7 (fun e50 e51 e52 e53=>z1z_L1 g n e50 e51 (w64 (e52 + 1)) e53 e0)) else e0 v7)
def z1z_ (g:C_z1z) (a1:List G_Spot) (a2 a3:Int) {R:Type} (k0:List G_Spot→Option R):Option R :=
 (z1z_L1 g g.N a2 a3 (w64 (a2 + 1)) a1 (fun e54=>k0 e54))
noncomputable def I_z1z [Fuel]:C_z1z:=⟨NN,@z2z _⟩
noncomputable def z1z [Fuel]:T_z1z:=@z1z_ I_z1z
def ypty (g:T_z1z):Spec A:=fun args=>match args with | [.arr 32 a1,.d (.int .i64 a2),.d (.int .i64 a3),.fn 57 []]=>fun k=>g a1 a2 a3 (fun z0=>k (.tup []) [.arr 32 z0,.undef,.undef,.fn 57 []]) | _=>fun _=>none
def ymjy:SSt:=mkSh 53 1 [(0,.own 32 0),(1,.int .i64),(2,.int .i64),(3,.fn 57 []),(8,.int .i64),(9,.int .i64)] [(0,.row 32)]
def ygEy (g:C_z1z) (n:Nat):LPT A:=fun ps=>match ps with | [.d (.int .i64 p1),.d (.int .i64 p2),.d (.int .i64 p3),.d (.int .i64 p4),.d (.sl 32 p5)]=>fun K=>z1z_L4 g n p1 p2 p3 p4 p5 (fun z0 z1 z2 z3=>K (.exit 2) (mkSt 53 1 [(0,.own 32 0),(1,.d (.int .i64 z0)),(2,.d (.int .i64 z1)),(3,.fn 57 []),(8,.d (.int .i64 z2))] [(0,some (.row 32 z3))])) | _=>fun _=>none
def ymzy:SSt:=mkSh 53 1 [(0,.own 32 0),(1,.int .i64),(2,.int .i64),(3,.fn 57 []),(8,.int .i64)] [(0,.row 32)]
def ygNy (g:C_z1z) (n:Nat):LPT A:=fun ps=>match ps with | [.d (.int .i64 p1),.d (.int .i64 p2),.d (.int .i64 p3),.d (.sl 32 p4)]=>fun K=>z1z_L1 g n p1 p2 p3 p4 (fun z0=>K (.exit 0) (mkSt 53 1 [(0,.own 32 0),(3,.fn 57 [])] [(0,some (.row 32 z0))])) | _=>fun _=>none
noncomputable def yoAy:Code:=(Tryz.f111.body).getD .skip
noncomputable def E_z1z (g:C_z1z):Env A:=mkE [(57,ymDy g.z2z)] [] [(4,⟨[0,1,2,3,8,9],[],[0],[],[],[],[]⟩),(1,⟨[0,1,2,3,8],[],[0],[],[],[],[]⟩)] [(4,⟨[0,1,2,3,8],[],[0],[],[],[],[]⟩),(1,⟨[0,3],[],[0],[],[],[],[]⟩)] [(4,yafy ymjy (ygEy g g.N)),(1,yafy ymzy (ygNy g g.N))] [] [] [] [] [0,3]
theorem yDDy [Fuel]:yagy (E_z1z I_z1z).C:=ct_of (P:=Tryz.prog) (T:=T) (.cons ypGy .nil) (by kernel_rfl)
noncomputable def ysOy:Code:=sub [1,0,0,1,0,0,1,0,0] yoAy
theorem yD4y (g:C_z1z) (n:Nat):yaly (E_z1z g) g.N ysOy ymjy (ygEy g) n:=by intro ps; unfold ygEy; split; exact .inr fun R K=>(by kernel_rfl); exact .inl fun R K=>rfl
theorem ysKy [Fuel]:yaey (E_z1z I_z1z) NN ysOy:=yahy ymjy (ygEy I_z1z) (by kernel_rfl) yDDy (cuts0 (fun _=>rfl) (by kernel_rfl)) (fun ps R K=>by unfold ygEy; split <;> (try unfold z1z_L4) <;> rfl) (yD4y I_z1z)
noncomputable def ysTy:Code:=sub [1,0,0] yoAy
theorem yFcy (g:C_z1z) (n:Nat):yaly (E_z1z g) g.N ysTy ymzy (ygNy g) n:=by intro ps; unfold ygNy; split; exact .inr fun R K=>(by kernel_rfl); exact .inl fun R K=>rfl
theorem yBWy [Fuel]:yaey (E_z1z I_z1z) NN ysTy:=yahy ymzy (ygNy I_z1z) (by kernel_rfl) yDDy (cutsL (fun _=>rfl) (.cons ysKy .nil) (by kernel_rfl)) (fun ps R K=>by unfold ygNy; split <;> (try unfold z1z_L1) <;> rfl) (yFcy I_z1z)
theorem yLzy (g:C_z1z):Same (ypty (@z1z_ g)) (abody (E_z1z g) Tryz.f111 yoAy 1 [0] [] g.N):=by intro args; unfold ypty; split; exact .inr fun R k=>(by kernel_rfl); exact .inl fun R k=>rfl
theorem yCcy [Fuel]:Ok 111 (ypty (@z1z _)):=yaay std (.cons ypGy .nil) ⟨rfl,rfl,by kernel_rfl,rfl,rfl,rfl⟩ (yLzy I_z1z) (cutsL (fun _=>rfl) (.cons ysKy (.cons yBWy .nil)) (by kernel_rfl)) Tryz.func111 (by kernel_rfl) (by kernel_rfl)
end Go.Am
