/- The functions of the program as Lean functions, each shown to be what the code computes, part 1. No condition: lemmas for the claim. -/
import Derived.Test.YtnlblmnoiepeaaaGreatDoorF0
import Derived.Test.YtnlblmnoiepeaaaGreatDoorFSh
set_option linter.unusedVariables false
set_option maxRecDepth 100000
namespace Go.Am
open Go Go.Proofs
abbrev ymWy:Type 1:=Int→Int→{R:Type}→(Int→Option R)→Option R
def yqay (g:Nat) (a1 a2:Int) {R:Type} (k0:Int→Option R):Option R :=
 (bif (decide (a2 < 1)) then k0 0 else (bif (a2 == 0) then none else (bif (decide ((Int.tmod a1 a2) < 0)) then k0 (w64 ((Int.tmod a1 a2) + a2)) else k0 (Int.tmod a1 a2))))
noncomputable def M_Below [Fuel]:ymWy:=@yqay NN
def yhAy (g:ymWy):Spec A:=fun args=>match args with | [.d (.int .i64 a1),.d (.int .i64 a2)]=>fun k=>g a1 a2 (fun z0=>k (.d (.int .i64 z0)) [.undef,.undef]) | _=>fun _=>none
noncomputable def yM7y:Code:=(Tryz.f64.body).getD .skip
noncomputable def yEBy (g:Nat):Env A:=mkE [] [] [] [] [] [] [] [] [] []
theorem yCsy (g:Nat):Same (yhAy (@yqay g)) (abody (yEBy g) Tryz.f64 yM7y 0 [] [.asis] g):=by intro args; unfold yhAy; split; exact .inr fun R k=>(by kernel_rfl); exact .inl fun R k=>rfl
theorem yDNy [Fuel]:Ok 64 (yhAy (@M_Below _)):=yaay std .nil ⟨rfl,rfl,by kernel_rfl,rfl,rfl,rfl⟩ (yCsy NN) (cuts0 (fun _=>rfl) (by kernel_rfl)) Tryz.func64 (by kernel_rfl) (by kernel_rfl)
abbrev ykxy:Type 1:=G_Stream→Int→{R:Type}→(Int→G_Stream→Option R)→Option R
structure C_z72z where
 N:Nat
 M_Below:ymWy
def z72z_ (g:C_z72z) (a1:G_Stream) (a2:Int) {R:Type} (k0:Int→G_Stream→Option R):Option R :=
 (bif ((a1.f_L.length:Int) == 0) then (g.M_Below (w64 ((w64 (a1.f_at + 1)) * 7919)) a2 (fun r3=>k0 r3 (⟨a1.f_L,(w64 (a1.f_at + 1))⟩:G_Stream))) else (bif ((a1.f_L.length:Int) == 0) then none else (bif ((a1.f_L.length:Int) == 0) then none else (get_ a1.f_L (Int.tmod (w64 ((w64 (a1.f_at + 1)) - 1)) (a1.f_L.length:Int)) fun x4=>(g.M_Below x4 1073741824 (fun r5=>(g.M_Below (w64 (r5 + (w64 ((w64 (Int.tdiv (w64 ((w64 (a1.f_at + 1)) - 1)) (a1.f_L.length:Int))) * (w64 (7919 + (Int.tmod (w64 ((w64 (a1.f_at + 1)) - 1)) (a1.f_L.length:Int)))))))) a2 (fun r6=>k0 r6 (⟨a1.f_L,(w64 (a1.f_at + 1))⟩:G_Stream)))))))))
noncomputable def yyWy [Fuel]:C_z72z:=⟨NN,@M_Below _⟩
noncomputable def z72z [Fuel]:ykxy:=@z72z_ yyWy
def yggy (g:ykxy):Spec A:=fun args=>match args with | [.box [.d (.sl 3 a1),.d (.int .i64 a2)],.d (.int .i64 a3)]=>fun k=>g ⟨a1,a2⟩ a3 (fun z0 z1=>k (.d (.int .i64 z0)) [.box [.d (.sl 3 z1.f_L),.d (.int .i64 z1.f_at)],.undef]) | _=>fun _=>none
noncomputable def yLpy:Code:=(Tryz.f28.body).getD .skip
noncomputable def yOcy (g:C_z72z):Env A:=mkE [(64,yhAy g.M_Below)] [] [] [] [] [] [] [] [] [0]
theorem yJfy (g:C_z72z):Same (yggy (@z72z_ g)) (abody (yOcy g) Tryz.f28 yLpy 1 [0] [.asis] g.N):=by intro args; unfold yggy; split; exact .inr fun R k=>(by kernel_rfl); exact .inl fun R k=>rfl
theorem yozy [Fuel]:Ok 28 (yggy (@z72z _)):=yaay std (.cons yDNy .nil) ⟨rfl,rfl,by kernel_rfl,rfl,rfl,rfl⟩ (yJfy yyWy) (cuts0 (fun _=>rfl) (by kernel_rfl)) Tryz.func28 (by kernel_rfl) (by kernel_rfl)
abbrev ykwy:Type 1:=G_Stream→Int→{R:Type}→(Bool→G_Stream→Option R)→Option R
structure C_z69z where
 N:Nat
 z72z:ykxy
def z69z_ (g:C_z69z) (a1:G_Stream) (a2:Int) {R:Type} (k0:Bool→G_Stream→Option R):Option R :=
 (g.z72z a1 a2 (fun r3 r4=>k0 (r3 == 0) r4))
noncomputable def ywHy [Fuel]:C_z69z:=⟨NN,@z72z _⟩
noncomputable def z69z [Fuel]:ykwy:=@z69z_ ywHy
def ygry (g:ykwy):Spec A:=fun args=>match args with | [.box [.d (.sl 3 a1),.d (.int .i64 a2)],.d (.int .i64 a3)]=>fun k=>g ⟨a1,a2⟩ a3 (fun z0 z1=>k (.d (.bool z0)) [.box [.d (.sl 3 z1.f_L),.d (.int .i64 z1.f_at)],.undef]) | _=>fun _=>none
noncomputable def yKHy:Code:=(Tryz.f25.body).getD .skip
noncomputable def yN3y (g:C_z69z):Env A:=mkE [(28,yggy g.z72z)] [] [] [] [] [] [] [] [] [0]
theorem yIJy (g:C_z69z):Same (ygry (@z69z_ g)) (abody (yN3y g) Tryz.f25 yKHy 1 [0] [.asis] g.N):=by intro args; unfold ygry; split; exact .inr fun R k=>(by kernel_rfl); exact .inl fun R k=>rfl
theorem yhRy [Fuel]:Ok 25 (ygry (@z69z _)):=yaay std (.cons yozy .nil) ⟨rfl,rfl,by kernel_rfl,rfl,rfl,rfl⟩ (yIJy ywHy) (cuts0 (fun _=>rfl) (by kernel_rfl)) Tryz.func25 (by kernel_rfl) (by kernel_rfl)
abbrev yxWy:Type 1:=G_Stream→{R:Type}→(List G_Band→G_Stream→Option R)→Option R
structure C_z33z where
 N:Nat
 z69z:ykwy
def z33z_L3 (g:C_z33z):Nat→Int→Int→G_Stream→List G_Band→List G_Band→{R:Type}→(G_Stream→List G_Band→Option R)→Option R
 | 0,_,_,_,_,_,_,_=>none
 | n + 1,v2,v3,v4,v5,v6,_,e0=>(bif (decide (v3 < v2)) then (inr v5 v3 (at_ v5 v3 fun x10=>(g.z69z v4 8 (fun r11 r12=>(bif (!r11) then (bif (decide ((v6.length + [x10].length) * 32≤yaly)) then z33z_L3 g n v2 (w64 (v3 + 1)) r12 v5 (v6 ++ [x10]) e0 else none) else z33z_L3 g n v2 (w64 (v3 + 1)) r12 v5 v6 e0))))) else e0 v4 v6)
def z33z_ (g:C_z33z) (a1:G_Stream) {R:Type} (k0:List G_Band→G_Stream→Option R):Option R :=
 (z33z_L3 g g.N ([(⟨[98,49,54,48],1800000,2000000⟩:G_Band),(⟨[98,52,48],7000000,7300000⟩:G_Band),(⟨[98,51,48],7300000,10150000⟩:G_Band),(⟨[98,50,48],14000000,14350000⟩:G_Band)].length:Int) 0 a1 [(⟨[98,49,54,48],1800000,2000000⟩:G_Band),(⟨[98,52,48],7000000,7300000⟩:G_Band),(⟨[98,51,48],7300000,10150000⟩:G_Band),(⟨[98,50,48],14000000,14350000⟩:G_Band)] [] (fun e13 e14=>k0 e14 e13))
noncomputable def yfYy [Fuel]:C_z33z:=⟨NN,@z69z _⟩
noncomputable def z33z [Fuel]:yxWy:=@z33z_ yfYy
def yo0y (g:yxWy):Spec A:=fun args=>match args with | [.box [.d (.sl 3 a1),.d (.int .i64 a2)]]=>fun k=>g ⟨a1,a2⟩ (fun z0 z1=>k (.arr 62 z0) [.box [.d (.sl 3 z1.f_L),.d (.int .i64 z1.f_at)]]) | _=>fun _=>none
def ylLy:SSt:=mkSh 25 6 [(0,.ptr 0 0),(3,.own 62 2),(10,.own 62 1),(11,.int .i64),(12,.int .i64)] [(0,.box [.sl 3,.int .i64]),(1,.row 62),(2,.row 62)]
def yfhy (g:C_z33z) (n:Nat):LPT A:=fun ps=>match ps with | [.d (.int .i64 p1),.d (.int .i64 p2),.d (.sl 3 p3),.d (.int .i64 p4),.d (.sl 62 p5),.d (.sl 62 p6)]=>fun K=>z33z_L3 g n p1 p2 ⟨p3,p4⟩ p5 p6 (fun z0 z1=>K (.exit 0) (mkSt 25 6 [(0,.ptr 0 0),(3,.own 62 2)] [(0,some (.box [.d (.sl 3 z0.f_L),.d (.int .i64 z0.f_at)])),(2,some (.row 62 z1))])) | _=>fun _=>none
noncomputable def yEfy:Code:=(Tryz.f5.body).getD .skip
noncomputable def yswy (g:C_z33z):Env A:=mkE [(25,ygry g.z69z)] [(5,[3]),(10,[1]),(21,[4]),(22,[5])] [(3,⟨[0,3,10,11,12],[(3,62,2)],[0,1],[],[],[],[]⟩)] [(3,⟨[0,3],[],[0,2],[],[],[],[]⟩)] [(3,yafy ylLy (yfhy g g.N))] [] [] [] [] [0]
theorem yLey [Fuel]:yahy (yswy yfYy).C:=ct_of (P:=Tryz.prog) (T:=T) (.cons yhRy .nil) (by kernel_rfl)
noncomputable def yrJy:Code:=sub [1,1,0,1,0,0] yEfy
theorem yEKy (g:C_z33z) (n:Nat):yaky (yswy g) g.N yrJy ylLy (yfhy g) n:=by intro ps; unfold yfhy; split; exact .inr fun R K=>(by kernel_rfl); exact .inl fun R K=>rfl
theorem yCCy [Fuel]:yacy (yswy yfYy) NN yrJy:=yaey ylLy (yfhy yfYy) (by kernel_rfl) yLey (cuts0 (fun _=>rfl) (by kernel_rfl)) (fun ps R K=>by unfold yfhy; split <;> (try unfold z33z_L3) <;> rfl) (yEKy yfYy)
theorem yLZy (g:C_z33z):Same (yo0y (@z33z_ g)) (abody (yswy g) Tryz.f5 yEfy 6 [0] [.arr 62] g.N):=by intro args; unfold yo0y; split; exact .inr fun R k=>(by kernel_rfl); exact .inl fun R k=>rfl
theorem yBiy [Fuel]:Ok 5 (yo0y (@z33z _)):=yaay std (.cons yhRy .nil) ⟨rfl,rfl,by kernel_rfl,rfl,rfl,rfl⟩ (yLZy yfYy) (cutsL (fun _=>rfl) (.cons yCCy .nil) (by kernel_rfl)) Tryz.func5 (by kernel_rfl) (by kernel_rfl)
abbrev yriy:Type 1:=G_Stream→Int→Int→{R:Type}→(Int→G_Stream→Option R)→Option R
structure C_z71z where
 N:Nat
 z72z:ykxy
def z71z_ (g:C_z71z) (a1:G_Stream) (a2 a3:Int) {R:Type} (k0:Int→G_Stream→Option R):Option R :=
 (bif (decide (a3 < a2)) then k0 a2 a1 else (g.z72z a1 (w64 ((w64 (a3 - a2)) + 1)) (fun r4 r5=>k0 (w64 (a2 + r4)) r5)))
noncomputable def yyLy [Fuel]:C_z71z:=⟨NN,@z72z _⟩
noncomputable def z71z [Fuel]:yriy:=@z71z_ yyLy
def yjMy (g:yriy):Spec A:=fun args=>match args with | [.box [.d (.sl 3 a1),.d (.int .i64 a2)],.d (.int .i64 a3),.d (.int .i64 a4)]=>fun k=>g ⟨a1,a2⟩ a3 a4 (fun z0 z1=>k (.d (.int .i64 z0)) [.box [.d (.sl 3 z1.f_L),.d (.int .i64 z1.f_at)],.undef,.undef]) | _=>fun _=>none
noncomputable def yNiy:Code:=(Tryz.f7.body).getD .skip
noncomputable def yNKy (g:C_z71z):Env A:=mkE [(28,yggy g.z72z)] [] [] [] [] [] [] [] [] [0]
theorem yKXy (g:C_z71z):Same (yjMy (@z71z_ g)) (abody (yNKy g) Tryz.f7 yNiy 1 [0] [.asis] g.N):=by intro args; unfold yjMy; split; exact .inr fun R k=>(by kernel_rfl); exact .inl fun R k=>rfl
theorem ytPy [Fuel]:Ok 7 (yjMy (@z71z _)):=yaay std (.cons yozy .nil) ⟨rfl,rfl,by kernel_rfl,rfl,rfl,rfl⟩ (yKXy yyLy) (cuts0 (fun _=>rfl) (by kernel_rfl)) Tryz.func7 (by kernel_rfl) (by kernel_rfl)
abbrev yqHy:Type 1:=G_Stream→List Int→{R:Type}→(Int→G_Stream→Option R)→Option R
structure C_z84z where
 N:Nat
 z72z:ykxy
def z84z_ (g:C_z84z) (a1:G_Stream) (a2:List Int) {R:Type} (k0:Int→G_Stream→Option R):Option R :=
 (g.z72z a1 (a2.length:Int) (fun r3 r4=>(get_ a2 r3 fun x5=>k0 x5 r4)))
noncomputable def ywxy [Fuel]:C_z84z:=⟨NN,@z72z _⟩
noncomputable def z84z [Fuel]:yqHy:=@z84z_ ywxy
def yjwy (g:yqHy):Spec A:=fun args=>match args with | [.box [.d (.sl 3 a1),.d (.int .i64 a2)],.d (.sl 3 a3)]=>fun k=>g ⟨a1,a2⟩ a3 (fun z0 z1=>k (.d (.int .i64 z0)) [.box [.d (.sl 3 z1.f_L),.d (.int .i64 z1.f_at)],.undef]) | _=>fun _=>none
noncomputable def yKyy:Code:=(Tryz.f55.body).getD .skip
noncomputable def yNUy (g:C_z84z):Env A:=mkE [(28,yggy g.z72z)] [] [] [] [] [] [] [] [] [0]
theorem yMoy (g:C_z84z):Same (yjwy (@z84z_ g)) (abody (yNUy g) Tryz.f55 yKyy 1 [0] [.asis] g.N):=by intro args; unfold yjwy; split; exact .inr fun R k=>(by kernel_rfl); exact .inl fun R k=>rfl
theorem ytvy [Fuel]:Ok 55 (yjwy (@z84z _)):=yaay std (.cons yozy .nil) ⟨rfl,rfl,by kernel_rfl,rfl,rfl,rfl⟩ (yMoy ywxy) (cuts0 (fun _=>rfl) (by kernel_rfl)) Tryz.func55 (by kernel_rfl) (by kernel_rfl)
abbrev yrhy:Type 1:=G_Stream→List (List UInt8)→{R:Type}→(List UInt8→G_Stream→Option R)→Option R
structure C_z80z where
 N:Nat
 z72z:ykxy
def z80z_ (g:C_z80z) (a1:G_Stream) (a2:List (List UInt8)) {R:Type} (k0:List UInt8→G_Stream→Option R):Option R :=
 (g.z72z a1 (a2.length:Int) (fun r3 r4=>(get_ a2 r3 fun x5=>k0 x5 r4)))
noncomputable def ywKy [Fuel]:C_z80z:=⟨NN,@z72z _⟩
noncomputable def z80z [Fuel]:yrhy:=@z80z_ ywKy
def yj4y (g:yrhy):Spec A:=fun args=>match args with | [.box [.d (.sl 3 a1),.d (.int .i64 a2)],.d (.sl 9 a3)]=>fun k=>g ⟨a1,a2⟩ a3 (fun z0 z1=>k (.d (.str z0)) [.box [.d (.sl 3 z1.f_L),.d (.int .i64 z1.f_at)],.undef]) | _=>fun _=>none
noncomputable def yJFy:Code:=(Tryz.f57.body).getD .skip
noncomputable def yNCy (g:C_z80z):Env A:=mkE [(28,yggy g.z72z)] [] [] [] [] [] [] [] [] [0]
theorem yNby (g:C_z80z):Same (yj4y (@z80z_ g)) (abody (yNCy g) Tryz.f57 yJFy 1 [0] [.asis] g.N):=by intro args; unfold yj4y; split; exact .inr fun R k=>(by kernel_rfl); exact .inl fun R k=>rfl
theorem ytMy [Fuel]:Ok 57 (yj4y (@z80z _)):=yaay std (.cons yozy .nil) ⟨rfl,rfl,by kernel_rfl,rfl,rfl,rfl⟩ (yNby ywKy) (cuts0 (fun _=>rfl) (by kernel_rfl)) Tryz.func57 (by kernel_rfl) (by kernel_rfl)
abbrev yyTy:Type 1:=G_Stream→{R:Type}→(List UInt8→G_Stream→Option R)→Option R
structure C_z89z where
 N:Nat
 z69z:ykwy
 z80z:yrhy
def z89z_ (g:C_z89z) (a1:G_Stream) {R:Type} (k0:List UInt8→G_Stream→Option R):Option R :=
 (g.z69z a1 60 (fun r2 r3=>(bif r2 then (g.z80z r3 [[],[107,49],[75,49,65,66],[107,49,97,98,47],[49,97],[107,49,97,98,47,109,109,47,112]] (fun r4 r5=>k0 r4 r5)) else (g.z80z r3 [[107,49,97,98],[107,49,97,97],[107,49,97,98,47,52],[111,104,50,97,98,99],[111,104,50,97,98,100],[119,49,97,119],[110,49,109,109],[103,51,120,121,122,47,112]] (fun r6 r7=>k0 r6 r7)))))
noncomputable def yscy [Fuel]:C_z89z:=⟨NN,@z69z _,@z80z _⟩
noncomputable def z89z [Fuel]:yyTy:=@z89z_ yscy
def ynNy (g:yyTy):Spec A:=fun args=>match args with | [.box [.d (.sl 3 a1),.d (.int .i64 a2)]]=>fun k=>g ⟨a1,a2⟩ (fun z0 z1=>k (.d (.str z0)) [.box [.d (.sl 3 z1.f_L),.d (.int .i64 z1.f_at)]]) | _=>fun _=>none
noncomputable def yJKy:Code:=(Tryz.f56.body).getD .skip
noncomputable def yN2y (g:C_z89z):Env A:=mkE [(25,ygry g.z69z),(57,yj4y g.z80z)] [(6,[1]),(9,[2])] [] [] [] [] [] [] [] [0]
theorem yJmy (g:C_z89z):Same (ynNy (@z89z_ g)) (abody (yN2y g) Tryz.f56 yJKy 3 [0] [.asis] g.N):=by intro args; unfold ynNy; split; exact .inr fun R k=>(by kernel_rfl); exact .inl fun R k=>rfl
theorem yB6y [Fuel]:Ok 56 (ynNy (@z89z _)):=yaay std (.cons yhRy (.cons ytMy .nil)) ⟨rfl,rfl,by kernel_rfl,rfl,rfl,rfl⟩ (yJmy yscy) (cuts0 (fun _=>rfl) (by kernel_rfl)) Tryz.func56 (by kernel_rfl) (by kernel_rfl)
abbrev yigy:Type 1:=G_Stream→Int→Int→{R:Type}→(Int→G_Stream→Option R)→Option R
structure C_Stream_Odd where
 N:Nat
 z71z:yriy
 z69z:ykwy
 z84z:yqHy
def ygyy (g:C_Stream_Odd) (a1:G_Stream) (a2 a3:Int) {R:Type} (k0:Int→G_Stream→Option R):Option R :=
 (g.z69z a1 12 (fun r4 r5=>(bif r4 then (g.z84z r5 [(w64 (a2 - 1)),(w64 (a3 + 1)),a2,a3,(-1099511627776),1099511627776] (fun r6 r7=>k0 r6 r7)) else (g.z71z r5 a2 a3 (fun r8 r9=>k0 r8 r9)))))
noncomputable def ye9y [Fuel]:C_Stream_Odd:=⟨NN,@z71z _,@z69z _,@z84z _⟩
noncomputable def Stream_Odd [Fuel]:yigy:=@ygyy ye9y
def yegy (g:yigy):Spec A:=fun args=>match args with | [.box [.d (.sl 3 a1),.d (.int .i64 a2)],.d (.int .i64 a3),.d (.int .i64 a4)]=>fun k=>g ⟨a1,a2⟩ a3 a4 (fun z0 z1=>k (.d (.int .i64 z0)) [.box [.d (.sl 3 z1.f_L),.d (.int .i64 z1.f_at)],.undef,.undef]) | _=>fun _=>none
noncomputable def yIPy:Code:=(Tryz.f58.body).getD .skip
noncomputable def ywvy (g:C_Stream_Odd):Env A:=mkE [(7,yjMy g.z71z),(25,ygry g.z69z),(55,yjwy g.z84z)] [(16,[1])] [] [] [] [] [] [] [] [0]
theorem yvty (g:C_Stream_Odd):Same (yegy (@ygyy g)) (abody (ywvy g) Tryz.f58 yIPy 2 [0] [.asis] g.N):=by intro args; unfold yegy; split; exact .inr fun R k=>(by kernel_rfl); exact .inl fun R k=>rfl
theorem ymfy [Fuel]:Ok 58 (yegy (@Stream_Odd _)):=yaay std (.cons ytPy (.cons yhRy (.cons ytvy .nil))) ⟨rfl,rfl,by kernel_rfl,rfl,rfl,rfl⟩ (yvty ye9y) (cuts0 (fun _=>rfl) (by kernel_rfl)) Tryz.func58 (by kernel_rfl) (by kernel_rfl)
abbrev yxDy:Type 1:=Int→{R:Type}→(Bool→Option R)→Option R
def z81z_ (g:Nat) (a1:Int) {R:Type} (k0:Bool→Option R):Option R :=
 k0 (a1 != a1)
noncomputable def z81z [Fuel]:yxDy:=@z81z_ NN
def yeLy (g:yxDy):Spec A:=fun args=>match args with | [.d (.int .i64 a1)]=>fun k=>g a1 (fun z0=>k (.d (.bool z0)) [.undef]) | _=>fun _=>none
noncomputable def yyyy:Code:=(Tryz.f163.body).getD .skip
noncomputable def yNmy (g:Nat):Env A:=mkE [] [] [] [] [] [] [] [] [] []
theorem yK7y (g:Nat):Same (yeLy (@z81z_ g)) (abody (yNmy g) Tryz.f163 yyyy 0 [] [.asis] g):=by intro args; unfold yeLy; split; exact .inr fun R k=>(by kernel_rfl); exact .inl fun R k=>rfl
theorem yKdy [Fuel]:Ok 163 (yeLy (@z81z _)):=yaay std .nil ⟨rfl,rfl,by kernel_rfl,rfl,rfl,rfl⟩ (yK7y NN) (cuts0 (fun _=>rfl) (by kernel_rfl)) Tryz.func163 (by kernel_rfl) (by kernel_rfl)
noncomputable def yM4y (g:Nat):Env A:=mkED [] [] [] [] [] [] [] [] [] []
theorem yImy (g:Nat):Same (yeLy (@z81z_ g)) (abody (yM4y g) Tryz.f163 yyyy 0 [] [.asis] g):=by intro args; unfold yeLy; split; exact .inr fun R k=>(by kernel_rfl); exact .inl fun R k=>rfl
theorem yHby [Fuel]:OkD 163 (yeLy (@z81z _)):=yaay stdD .nil ⟨rfl,rfl,by kernel_rfl,rfl,rfl,rfl⟩ (yImy NN) (cuts0 (fun _=>rfl) (by kernel_rfl)) Tryz.func163 (by kernel_rfl) (by kernel_rfl)
abbrev yhey:Type 1:=Int→Int→{R:Type}→(Int→Option R)→Option R
structure C_z25z where
 N:Nat
 z81z:yxDy
def z25z_ (g:C_z25z) (a1 a2:Int) {R:Type} (k0:Int→Option R):Option R :=
 (g.z81z a1 (fun r3=>(g.z81z a2 (fun r4=>(bif r3 then (bif r4 then k0 0 else k0 (-1)) else (bif r4 then k0 1 else (bif (decide (a1 < a2)) then k0 (-1) else (bif (decide (a1 > a2)) then k0 1 else k0 0))))))))
noncomputable def yq5y [Fuel]:C_z25z:=⟨NN,@z81z _⟩
noncomputable def z25z [Fuel]:yhey:=@z25z_ yq5y
def ybYy (g:yhey):Spec A:=fun args=>match args with | [.d (.int .i64 a1),.d (.int .i64 a2)]=>fun k=>g a1 a2 (fun z0=>k (.d (.int .i64 z0)) [.undef,.undef]) | _=>fun _=>none
noncomputable def yvDy:Code:=(Tryz.f122.body).getD .skip
noncomputable def yNty (g:C_z25z):Env A:=mkE [(163,yeLy g.z81z)] [] [] [] [] [] [] [] [] []
theorem yLEy (g:C_z25z):Same (ybYy (@z25z_ g)) (abody (yNty g) Tryz.f122 yvDy 0 [] [.asis] g.N):=by intro args; unfold ybYy; split; exact .inr fun R k=>(by kernel_rfl); exact .inl fun R k=>rfl
theorem ygfy [Fuel]:Ok 122 (ybYy (@z25z _)):=yaay std (.cons yKdy .nil) ⟨rfl,rfl,by kernel_rfl,rfl,rfl,rfl⟩ (yLEy yq5y) (cuts0 (fun _=>rfl) (by kernel_rfl)) Tryz.func122 (by kernel_rfl) (by kernel_rfl)
noncomputable def yMzy (g:C_z25z):Env A:=mkED [(163,yeLy g.z81z)] [] [] [] [] [] [] [] [] []
theorem yGcy (g:C_z25z):Same (ybYy (@z25z_ g)) (abody (yMzy g) Tryz.f122 yvDy 0 [] [.asis] g.N):=by intro args; unfold ybYy; split; exact .inr fun R k=>(by kernel_rfl); exact .inl fun R k=>rfl
theorem yxvy [Fuel]:OkD 122 (ybYy (@z25z _)):=yaay stdD (.cons yHby .nil) ⟨rfl,rfl,by kernel_rfl,rfl,rfl,rfl⟩ (yGcy yq5y) (cuts0 (fun _=>rfl) (by kernel_rfl)) Tryz.func122 (by kernel_rfl) (by kernel_rfl)
abbrev ywOy:Type 1:=List Int→List Int→{R:Type}→(Int→Option R)→Option R
structure C_z38z where
 N:Nat
 z25z:yhey
def z38z_L2 (g:C_z38z):Nat→List Int→List Int→List Int→Int→Int→{R:Type}→(List Int→List Int→Int→Option R)→(List Int→List Int→Option R)→Option R
 | 0,_,_,_,_,_,_,_,_=>none
 | n + 1,v3,v4,v5,v6,v7,_,e0,e1=>(bif (decide (v7 < v6)) then (get_ v5 v7 fun x11=>(bif (decide (v7 ≥ (v4.length:Int))) then e0 v3 v4 1 else (get_ v4 v7 fun x12=>(g.z25z x11 x12 (fun r13=>(bif (r13 != 0) then e0 v3 v4 r13 else z38z_L2 g n v3 v4 v5 v6 (w64 (v7 + 1)) e0 e1)))))) else e1 v3 v4)
def z38z_ (g:C_z38z) (a1 a2:List Int) {R:Type} (k0:Int→Option R):Option R :=
 (z38z_L2 g g.N a1 a2 a1 (a1.length:Int) 0 (fun e14 e15 e16=>k0 e16) (fun e17 e18=>(bif (decide ((e17.length:Int) < (e18.length:Int))) then k0 (-1) else k0 0)))
noncomputable def ygRy [Fuel]:C_z38z:=⟨NN,@z25z _⟩
noncomputable def z38z [Fuel]:ywOy:=@z38z_ ygRy
def yoWy (g:ywOy):Spec A:=fun args=>match args with | [.d (.sl 3 a1),.d (.sl 3 a2)]=>fun k=>g a1 a2 (fun z0=>k (.d (.int .i64 z0)) [.undef,.undef]) | _=>fun _=>none
def ykZy:SSt:=mkSh 36 0 [(0,.sl 3),(1,.sl 3),(9,.sl 3),(10,.int .i64),(11,.int .i64)] []
def yeTy (g:C_z38z) (n:Nat):LPT A:=fun ps=>match ps with | [.d (.sl 3 p1),.d (.sl 3 p2),.d (.sl 3 p3),.d (.int .i64 p4),.d (.int .i64 p5)]=>fun K=>z38z_L2 g n p1 p2 p3 p4 p5 (fun z0 z1 z2=>K .ret (mkSt 36 0 [(0,.d (.sl 3 z0)),(1,.d (.sl 3 z1)),(4,.d (.int .i64 z2))] [])) (fun z0 z1=>K (.exit 0) (mkSt 36 0 [(0,.d (.sl 3 z0)),(1,.d (.sl 3 z1))] [])) | _=>fun _=>none
noncomputable def yxUy:Code:=(Tryz.f111.body).getD .skip
noncomputable def yrRy (g:C_z38z):Env A:=mkE [(122,ybYy g.z25z)] [] [(2,⟨[0,1,9,10,11],[],[],[],[],[],[]⟩)] [(2,⟨[0,1,4],[],[],[],[],[],[]⟩)] [(2,yafy ykZy (yeTy g g.N))] [] [] [] [] []
theorem yM2y [Fuel]:yahy (yrRy ygRy).C:=ct_of (P:=Tryz.prog) (T:=T) (.cons ygfy .nil) (by kernel_rfl)
noncomputable def yrly:Code:=sub [1,0,1,0,0] yxUy
theorem yESy (g:C_z38z) (n:Nat):yaky (yrRy g) g.N yrly ykZy (yeTy g) n:=by intro ps; unfold yeTy; split; exact .inr fun R K=>(by kernel_rfl); exact .inl fun R K=>rfl
theorem yCAy [Fuel]:yacy (yrRy ygRy) NN yrly:=yaey ykZy (yeTy ygRy) (by kernel_rfl) yM2y (cuts0 (fun _=>rfl) (by kernel_rfl)) (fun ps R K=>by unfold yeTy; split <;> (try unfold z38z_L2) <;> rfl) (yESy ygRy)
theorem yLvy (g:C_z38z):Same (yoWy (@z38z_ g)) (abody (yrRy g) Tryz.f111 yxUy 0 [] [.asis] g.N):=by intro args; unfold yoWy; split; exact .inr fun R k=>(by kernel_rfl); exact .inl fun R k=>rfl
theorem yMqy [Fuel]:Ok 111 (yoWy (@z38z _)):=yaay std (.cons ygfy .nil) ⟨rfl,rfl,by kernel_rfl,rfl,rfl,rfl⟩ (yLvy ygRy) (cutsL (fun _=>rfl) (.cons yCAy .nil) (by kernel_rfl)) Tryz.func111 (by kernel_rfl) (by kernel_rfl)
abbrev yw8y:Type 1:=List UInt8→{R:Type}→(Bool→Option R)→Option R
def z96z_ (g:Nat) (a1:List UInt8) {R:Type} (k0:Bool→Option R):Option R :=
 k0 (!(a1 == a1))
noncomputable def z96z [Fuel]:yw8y:=@z96z_ NN
def yopy (g:yw8y):Spec A:=fun args=>match args with | [.d (.str a1)]=>fun k=>g a1 (fun z0=>k (.d (.bool z0)) [.undef]) | _=>fun _=>none
noncomputable def yICy:Code:=(Tryz.f147.body).getD .skip
noncomputable def yOGy (g:Nat):Env A:=mkE [] [] [] [] [] [] [] [] [] []
theorem yKiy (g:Nat):Same (yopy (@z96z_ g)) (abody (yOGy g) Tryz.f147 yICy 0 [] [.asis] g):=by intro args; unfold yopy; split; exact .inr fun R k=>(by kernel_rfl); exact .inl fun R k=>rfl
theorem yLky [Fuel]:Ok 147 (yopy (@z96z _)):=yaay std .nil ⟨rfl,rfl,by kernel_rfl,rfl,rfl,rfl⟩ (yKiy NN) (cuts0 (fun _=>rfl) (by kernel_rfl)) Tryz.func147 (by kernel_rfl) (by kernel_rfl)
abbrev ywiy:Type 1:=List UInt8→List UInt8→{R:Type}→(Int→Option R)→Option R
structure C_z70z where
 N:Nat
 z96z:yw8y
def z70z_ (g:C_z70z) (a1 a2:List UInt8) {R:Type} (k0:Int→Option R):Option R :=
 (g.z96z a1 (fun r3=>(g.z96z a2 (fun r4=>(bif r3 then (bif r4 then k0 0 else k0 (-1)) else (bif r4 then k0 1 else (bif (Op.bytesLess a1 a2) then k0 (-1) else (bif (!(Op.bytesLess a1 a2 || a1 == a2)) then k0 1 else k0 0))))))))
noncomputable def yyDy [Fuel]:C_z70z:=⟨NN,@z96z _⟩
noncomputable def z70z [Fuel]:ywiy:=@z70z_ yyDy
def yo3y (g:ywiy):Spec A:=fun args=>match args with | [.d (.str a1),.d (.str a2)]=>fun k=>g a1 a2 (fun z0=>k (.d (.int .i64 z0)) [.undef,.undef]) | _=>fun _=>none
noncomputable def yGZy:Code:=(Tryz.f154.body).getD .skip
noncomputable def yNky (g:C_z70z):Env A:=mkE [(147,yopy g.z96z)] [] [] [] [] [] [] [] [] []
theorem yKNy (g:C_z70z):Same (yo3y (@z70z_ g)) (abody (yNky g) Tryz.f154 yGZy 0 [] [.asis] g.N):=by intro args; unfold yo3y; split; exact .inr fun R k=>(by kernel_rfl); exact .inl fun R k=>rfl
theorem yAKy [Fuel]:Ok 154 (yo3y (@z70z _)):=yaay std (.cons yLky .nil) ⟨rfl,rfl,by kernel_rfl,rfl,rfl,rfl⟩ (yKNy yyDy) (cuts0 (fun _=>rfl) (by kernel_rfl)) Tryz.func154 (by kernel_rfl) (by kernel_rfl)
abbrev yw3y:Type 1:=List (List UInt8)→List (List UInt8)→{R:Type}→(Int→Option R)→Option R
structure C_z27z where
 N:Nat
 z70z:ywiy
def z27z_L2 (g:C_z27z):Nat→List (List UInt8)→List (List UInt8)→List (List UInt8)→Int→Int→{R:Type}→(List (List UInt8)→List (List UInt8)→Int→Option R)→(List (List UInt8)→List (List UInt8)→Option R)→Option R
 | 0,_,_,_,_,_,_,_,_=>none
 | n + 1,v3,v4,v5,v6,v7,_,e0,e1=>(bif (decide (v7 < v6)) then (get_ v5 v7 fun x11=>(bif (decide (v7 ≥ (v4.length:Int))) then e0 v3 v4 1 else (get_ v4 v7 fun x12=>(g.z70z x11 x12 (fun r13=>(bif (r13 != 0) then e0 v3 v4 r13 else z27z_L2 g n v3 v4 v5 v6 (w64 (v7 + 1)) e0 e1)))))) else e1 v3 v4)
def z27z_ (g:C_z27z) (a1 a2:List (List UInt8)) {R:Type} (k0:Int→Option R):Option R :=
 (z27z_L2 g g.N a1 a2 a1 (a1.length:Int) 0 (fun e14 e15 e16=>k0 e16) (fun e17 e18=>(bif (decide ((e17.length:Int) < (e18.length:Int))) then k0 (-1) else k0 0)))
noncomputable def yhly [Fuel]:C_z27z:=⟨NN,@z70z _⟩
noncomputable def z27z [Fuel]:yw3y:=@z27z_ yhly
def yoqy (g:yw3y):Spec A:=fun args=>match args with | [.d (.sl 9 a1),.d (.sl 9 a2)]=>fun k=>g a1 a2 (fun z0=>k (.d (.int .i64 z0)) [.undef,.undef]) | _=>fun _=>none
def ylby:SSt:=mkSh 36 0 [(0,.sl 9),(1,.sl 9),(9,.sl 9),(10,.int .i64),(11,.int .i64)] []
def ye3y (g:C_z27z) (n:Nat):LPT A:=fun ps=>match ps with | [.d (.sl 9 p1),.d (.sl 9 p2),.d (.sl 9 p3),.d (.int .i64 p4),.d (.int .i64 p5)]=>fun K=>z27z_L2 g n p1 p2 p3 p4 p5 (fun z0 z1 z2=>K .ret (mkSt 36 0 [(0,.d (.sl 9 z0)),(1,.d (.sl 9 z1)),(4,.d (.int .i64 z2))] [])) (fun z0 z1=>K (.exit 0) (mkSt 36 0 [(0,.d (.sl 9 z0)),(1,.d (.sl 9 z1))] [])) | _=>fun _=>none
noncomputable def yyHy:Code:=(Tryz.f112.body).getD .skip
noncomputable def yr1y (g:C_z27z):Env A:=mkE [(154,yo3y g.z70z)] [] [(2,⟨[0,1,9,10,11],[],[],[],[],[],[]⟩)] [(2,⟨[0,1,4],[],[],[],[],[],[]⟩)] [(2,yafy ylby (ye3y g g.N))] [] [] [] [] []
theorem yKky [Fuel]:yahy (yr1y yhly).C:=ct_of (P:=Tryz.prog) (T:=T) (.cons yAKy .nil) (by kernel_rfl)
noncomputable def yrpy:Code:=sub [1,0,1,0,0] yyHy
theorem yEVy (g:C_z27z) (n:Nat):yaky (yr1y g) g.N yrpy ylby (ye3y g) n:=by intro ps; unfold ye3y; split; exact .inr fun R K=>(by kernel_rfl); exact .inl fun R K=>rfl
theorem yDDy [Fuel]:yacy (yr1y yhly) NN yrpy:=yaey ylby (ye3y yhly) (by kernel_rfl) yKky (cuts0 (fun _=>rfl) (by kernel_rfl)) (fun ps R K=>by unfold ye3y; split <;> (try unfold z27z_L2) <;> rfl) (yEVy yhly)
theorem yIKy (g:C_z27z):Same (yoqy (@z27z_ g)) (abody (yr1y g) Tryz.f112 yyHy 0 [] [.asis] g.N):=by intro args; unfold yoqy; split; exact .inr fun R k=>(by kernel_rfl); exact .inl fun R k=>rfl
theorem yMly [Fuel]:Ok 112 (yoqy (@z27z _)):=yaay std (.cons yAKy .nil) ⟨rfl,rfl,by kernel_rfl,rfl,rfl,rfl⟩ (yIKy yhly) (cutsL (fun _=>rfl) (.cons yDDy .nil) (by kernel_rfl)) Tryz.func112 (by kernel_rfl) (by kernel_rfl)
abbrev yr3y:Type 1:=G_Spot→G_Spot→{R:Type}→(Int→Option R)→Option R
structure C_z10z where
 N:Nat
 z38z:ywOy
 z27z:yw3y
def z10z_ (g:C_z10z) (a1 a2:G_Spot) {R:Type} (k0:Int→Option R):Option R :=
 (g.z38z [a1.f_At,a1.f_Hertz] [a2.f_At,a2.f_Hertz] (fun r3=>(bif (r3 != 0) then k0 r3 else (g.z27z [a1.f_Call,a1.f_By] [a2.f_Call,a2.f_By] (fun r4=>k0 r4)))))
noncomputable def yvJy [Fuel]:C_z10z:=⟨NN,@z38z _,@z27z _⟩
noncomputable def z10z [Fuel]:yr3y:=@z10z_ yvJy
def ykcy (g:yr3y):Spec A:=fun args=>match args with | [.agg [.d (.int .i64 a1),.d (.int .i64 a2),.d (.str a3),.d (.str a4)],.agg [.d (.int .i64 a5),.d (.int .i64 a6),.d (.str a7),.d (.str a8)]]=>fun k=>g ⟨a1,a2,a3,a4⟩ ⟨a5,a6,a7,a8⟩ (fun z0=>k (.d (.int .i64 z0)) [.undef,.undef]) | _=>fun _=>none
noncomputable def yM5y:Code:=(Tryz.f59.body).getD .skip
noncomputable def yNLy (g:C_z10z):Env A:=mkE [(111,yoWy g.z38z),(112,yoqy g.z27z)] [(2,[0]),(3,[1]),(10,[2]),(15,[3]),(24,[4]),(29,[5])] [] [] [] [] [] [] [] []
theorem yMby (g:C_z10z):Same (ykcy (@z10z_ g)) (abody (yNLy g) Tryz.f59 yM5y 6 [] [.asis] g.N):=by intro args; unfold ykcy; split; exact .inr fun R k=>(by kernel_rfl); exact .inl fun R k=>rfl
theorem yoVy [Fuel]:Ok 59 (ykcy (@z10z _)):=yaay std (.cons yMqy (.cons yMly .nil)) ⟨rfl,rfl,by kernel_rfl,rfl,rfl,rfl⟩ (yMby yvJy) (cuts0 (fun _=>rfl) (by kernel_rfl)) Tryz.func59 (by kernel_rfl) (by kernel_rfl)
end Go.Am
