/- The functions of the program as Lean functions, each shown to be what the code computes, part 1. No condition: lemmas for the claim. -/
import Derived.Test.YtkcbebmbmffkjaaGreatDoorF0
import Derived.Test.YtkcbebmbmffkjaaGreatDoorFSh
set_option linter.unusedVariables false
set_option maxRecDepth 100000
namespace Go.Am
open Go Go.Proofs
abbrev ymWy:Type 1:=Int→Int→{R:Type}→(Int→Option R)→Option R
def yqTy (g:Nat) (a1 a2:Int) {R:Type} (k0:Int→Option R):Option R :=
 (bif (decide (a2 < 1)) then k0 0 else (bif (a2 == 0) then none else (bif (decide ((Int.tmod a1 a2) < 0)) then k0 (w64 ((Int.tmod a1 a2) + a2)) else k0 (Int.tmod a1 a2))))
noncomputable def M_Below [Fuel]:ymWy:=@yqTy NN
def yhXy (g:ymWy):Spec A:=fun args=>match args with | [.d (.int .i64 a1),.d (.int .i64 a2)]=>fun k=>g a1 a2 (fun z0=>k (.d (.int .i64 z0)) [.undef,.undef]) | _=>fun _=>none
noncomputable def yKny:Code:=(Tryz.f88.body).getD .skip
noncomputable def yFBy (g:Nat):Env A:=mkE [] [] [] [] [] [] [] [] [] []
theorem yEky (g:Nat):Same (yhXy (@yqTy g)) (abody (yFBy g) Tryz.f88 yKny 0 [] [.asis] g):=by intro args; unfold yhXy; split; exact .inr fun R k=>(by kernel_rfl); exact .inl fun R k=>rfl
theorem yDHy [Fuel]:Ok 88 (yhXy (@M_Below _)):=yaay std .nil ⟨rfl,rfl,by kernel_rfl,rfl,rfl,rfl⟩ (yEky NN) (cuts0 (fun _=>rfl) (by kernel_rfl)) Tryz.func88 (by kernel_rfl) (by kernel_rfl)
abbrev yg8y:Type 1:=G_Stream→Int→{R:Type}→(Int→G_Stream→Option R)→Option R
structure C_z80z where
 N:Nat
 M_Below:ymWy
def z80z_ (g:C_z80z) (a1:G_Stream) (a2:Int) {R:Type} (k0:Int→G_Stream→Option R):Option R :=
 (bif ((a1.f_L.length:Int) == 0) then (g.M_Below (w64 ((w64 (a1.f_at + 1)) * 7919)) a2 (fun r3=>k0 r3 (⟨a1.f_L,(w64 (a1.f_at + 1))⟩:G_Stream))) else (bif ((a1.f_L.length:Int) == 0) then none else (bif ((a1.f_L.length:Int) == 0) then none else (get_ a1.f_L (Int.tmod (w64 ((w64 (a1.f_at + 1)) - 1)) (a1.f_L.length:Int)) fun x4=>(g.M_Below x4 1073741824 (fun r5=>(g.M_Below (w64 (r5 + (w64 ((w64 (Int.tdiv (w64 ((w64 (a1.f_at + 1)) - 1)) (a1.f_L.length:Int))) * (w64 (7919 + (Int.tmod (w64 ((w64 (a1.f_at + 1)) - 1)) (a1.f_L.length:Int)))))))) a2 (fun r6=>k0 r6 (⟨a1.f_L,(w64 (a1.f_at + 1))⟩:G_Stream)))))))))
noncomputable def yxuy [Fuel]:C_z80z:=⟨NN,@M_Below _⟩
noncomputable def z80z [Fuel]:yg8y:=@z80z_ yxuy
def ydLy (g:yg8y):Spec A:=fun args=>match args with | [.box [.d (.sl 3 a1),.d (.int .i64 a2)],.d (.int .i64 a3)]=>fun k=>g ⟨a1,a2⟩ a3 (fun z0 z1=>k (.d (.int .i64 z0)) [.box [.d (.sl 3 z1.f_L),.d (.int .i64 z1.f_at)],.undef]) | _=>fun _=>none
noncomputable def yNEy:Code:=(Tryz.f35.body).getD .skip
noncomputable def yQby (g:C_z80z):Env A:=mkE [(88,yhXy g.M_Below)] [] [] [] [] [] [] [] [] [0]
theorem yLLy (g:C_z80z):Same (ydLy (@z80z_ g)) (abody (yQby g) Tryz.f35 yNEy 1 [0] [.asis] g.N):=by intro args; unfold ydLy; split; exact .inr fun R k=>(by kernel_rfl); exact .inl fun R k=>rfl
theorem yh1y [Fuel]:Ok 35 (ydLy (@z80z _)):=yaay std (.cons yDHy .nil) ⟨rfl,rfl,by kernel_rfl,rfl,rfl,rfl⟩ (yLLy yxuy) (cuts0 (fun _=>rfl) (by kernel_rfl)) Tryz.func35 (by kernel_rfl) (by kernel_rfl)
abbrev yfry:Type 1:=G_Stream→Int→{R:Type}→(Bool→G_Stream→Option R)→Option R
structure C_z76z where
 N:Nat
 z80z:yg8y
def z76z_ (g:C_z76z) (a1:G_Stream) (a2:Int) {R:Type} (k0:Bool→G_Stream→Option R):Option R :=
 (g.z80z a1 a2 (fun r3 r4=>k0 (r3 == 0) r4))
noncomputable def yzdy [Fuel]:C_z76z:=⟨NN,@z80z _⟩
noncomputable def z76z [Fuel]:yfry:=@z76z_ yzdy
def ydky (g:yfry):Spec A:=fun args=>match args with | [.box [.d (.sl 3 a1),.d (.int .i64 a2)],.d (.int .i64 a3)]=>fun k=>g ⟨a1,a2⟩ a3 (fun z0 z1=>k (.d (.bool z0)) [.box [.d (.sl 3 z1.f_L),.d (.int .i64 z1.f_at)],.undef]) | _=>fun _=>none
noncomputable def yMzy:Code:=(Tryz.f34.body).getD .skip
noncomputable def yOQy (g:C_z76z):Env A:=mkE [(35,ydLy g.z80z)] [] [] [] [] [] [] [] [] [0]
theorem yN5y (g:C_z76z):Same (ydky (@z76z_ g)) (abody (yOQy g) Tryz.f34 yMzy 1 [0] [.asis] g.N):=by intro args; unfold ydky; split; exact .inr fun R k=>(by kernel_rfl); exact .inl fun R k=>rfl
theorem ydPy [Fuel]:Ok 34 (ydky (@z76z _)):=yaay std (.cons yh1y .nil) ⟨rfl,rfl,by kernel_rfl,rfl,rfl,rfl⟩ (yN5y yzdy) (cuts0 (fun _=>rfl) (by kernel_rfl)) Tryz.func34 (by kernel_rfl) (by kernel_rfl)
abbrev yx3y:Type 1:=G_Stream→{R:Type}→(List G_Band→G_Stream→Option R)→Option R
structure C_z53z where
 N:Nat
 z76z:yfry
def z53z_L3 (g:C_z53z):Nat→Int→Int→G_Stream→List G_Band→List G_Band→{R:Type}→(G_Stream→List G_Band→Option R)→Option R
 | 0,_,_,_,_,_,_,_=>none
 | n + 1,v2,v3,v4,v5,v6,_,e0=>(bif (decide (v3 < v2)) then (inr v5 v3 (at_ v5 v3 fun x10=>(g.z76z v4 8 (fun r11 r12=>(bif (!r11) then (bif (decide ((v6.length + [x10].length) * 32≤yazy)) then z53z_L3 g n v2 (w64 (v3 + 1)) r12 v5 (v6 ++ [x10]) e0 else none) else z53z_L3 g n v2 (w64 (v3 + 1)) r12 v5 v6 e0))))) else e0 v4 v6)
def z53z_ (g:C_z53z) (a1:G_Stream) {R:Type} (k0:List G_Band→G_Stream→Option R):Option R :=
 (z53z_L3 g g.N ([(⟨[98,49,54,48],1800000,2000000⟩:G_Band),(⟨[98,52,48],7000000,7300000⟩:G_Band),(⟨[98,51,48],7300000,10150000⟩:G_Band),(⟨[98,50,48],14000000,14350000⟩:G_Band)].length:Int) 0 a1 [(⟨[98,49,54,48],1800000,2000000⟩:G_Band),(⟨[98,52,48],7000000,7300000⟩:G_Band),(⟨[98,51,48],7300000,10150000⟩:G_Band),(⟨[98,50,48],14000000,14350000⟩:G_Band)] [] (fun e13 e14=>k0 e14 e13))
noncomputable def ygdy [Fuel]:C_z53z:=⟨NN,@z76z _⟩
noncomputable def z53z [Fuel]:yx3y:=@z53z_ ygdy
def yo1y (g:yx3y):Spec A:=fun args=>match args with | [.box [.d (.sl 3 a1),.d (.int .i64 a2)]]=>fun k=>g ⟨a1,a2⟩ (fun z0 z1=>k (.arr 69 z0) [.box [.d (.sl 3 z1.f_L),.d (.int .i64 z1.f_at)]]) | _=>fun _=>none
def yk8y:SSt:=mkSh 25 6 [(0,.ptr 0 0),(3,.own 69 2),(10,.own 69 1),(11,.int .i64),(12,.int .i64)] [(0,.box [.sl 3,.int .i64]),(1,.row 69),(2,.row 69)]
def yeOy (g:C_z53z) (n:Nat):LPT A:=fun ps=>match ps with | [.d (.int .i64 p1),.d (.int .i64 p2),.d (.sl 3 p3),.d (.int .i64 p4),.d (.sl 69 p5),.d (.sl 69 p6)]=>fun K=>z53z_L3 g n p1 p2 ⟨p3,p4⟩ p5 p6 (fun z0 z1=>K (.exit 0) (mkSt 25 6 [(0,.ptr 0 0),(3,.own 69 2)] [(0,some (.box [.d (.sl 3 z0.f_L),.d (.int .i64 z0.f_at)])),(2,some (.row 69 z1))])) | _=>fun _=>none
noncomputable def yCjy:Code:=(Tryz.f33.body).getD .skip
noncomputable def ys5y (g:C_z53z):Env A:=mkE [(34,ydky g.z76z)] [(5,[3]),(10,[1]),(21,[4]),(22,[5])] [(3,⟨[0,3,10,11,12],[(3,69,2)],[0,1],[],[],[],[]⟩)] [(3,⟨[0,3],[],[0,2],[],[],[],[]⟩)] [(3,yaey yk8y (yeOy g g.N))] [] [] [] [] [0]
theorem yNZy [Fuel]:yagy (ys5y ygdy).C:=ct_of (P:=Tryz.prog) (T:=T) (.cons ydPy .nil) (by kernel_rfl)
noncomputable def yshy:Code:=sub [1,1,0,1,0,0] yCjy
theorem yGky (g:C_z53z) (n:Nat):yahy (ys5y g) g.N yshy yk8y (yeOy g) n:=by intro ps; unfold yeOy; split; exact .inr fun R K=>(by kernel_rfl); exact .inl fun R K=>rfl
theorem yDVy [Fuel]:yacy (ys5y ygdy) NN yshy:=yaby yk8y (yeOy ygdy) (by kernel_rfl) yNZy (cuts0 (fun _=>rfl) (by kernel_rfl)) (fun ps R K=>by unfold yeOy; split <;> (try unfold z53z_L3) <;> rfl) (yGky ygdy)
theorem yNzy (g:C_z53z):Same (yo1y (@z53z_ g)) (abody (ys5y g) Tryz.f33 yCjy 6 [0] [.arr 69] g.N):=by intro args; unfold yo1y; split; exact .inr fun R k=>(by kernel_rfl); exact .inl fun R k=>rfl
theorem yOpy [Fuel]:Ok 33 (yo1y (@z53z _)):=yaay std (.cons ydPy .nil) ⟨rfl,rfl,by kernel_rfl,rfl,rfl,rfl⟩ (yNzy ygdy) (cutsL (fun _=>rfl) (.cons yDVy .nil) (by kernel_rfl)) Tryz.func33 (by kernel_rfl) (by kernel_rfl)
abbrev yj7y:Type 1:=G_Stream→List (List UInt8)→{R:Type}→(List UInt8→G_Stream→Option R)→Option R
structure C_z59z where
 N:Nat
 z80z:yg8y
def z59z_ (g:C_z59z) (a1:G_Stream) (a2:List (List UInt8)) {R:Type} (k0:List UInt8→G_Stream→Option R):Option R :=
 (g.z80z a1 (a2.length:Int) (fun r3 r4=>(get_ a2 r3 fun x5=>k0 x5 r4)))
noncomputable def yzLy [Fuel]:C_z59z:=⟨NN,@z80z _⟩
noncomputable def z59z [Fuel]:yj7y:=@z59z_ yzLy
def ygpy (g:yj7y):Spec A:=fun args=>match args with | [.box [.d (.sl 3 a1),.d (.int .i64 a2)],.d (.sl 9 a3)]=>fun k=>g ⟨a1,a2⟩ a3 (fun z0 z1=>k (.d (.str z0)) [.box [.d (.sl 3 z1.f_L),.d (.int .i64 z1.f_at)],.undef]) | _=>fun _=>none
noncomputable def yKCy:Code:=(Tryz.f36.body).getD .skip
noncomputable def yPSy (g:C_z59z):Env A:=mkE [(35,ydLy g.z80z)] [] [] [] [] [] [] [] [] [0]
theorem yLpy (g:C_z59z):Same (ygpy (@z59z_ g)) (abody (yPSy g) Tryz.f36 yKCy 1 [0] [.asis] g.N):=by intro args; unfold ygpy; split; exact .inr fun R k=>(by kernel_rfl); exact .inl fun R k=>rfl
theorem ykay [Fuel]:Ok 36 (ygpy (@z59z _)):=yaay std (.cons yh1y .nil) ⟨rfl,rfl,by kernel_rfl,rfl,rfl,rfl⟩ (yLpy yzLy) (cuts0 (fun _=>rfl) (by kernel_rfl)) Tryz.func36 (by kernel_rfl) (by kernel_rfl)
abbrev ye5y:Type 1:=G_Stream→List Int→{R:Type}→(Int→G_Stream→Option R)→Option R
structure C_z65z where
 N:Nat
 z80z:yg8y
def z65z_ (g:C_z65z) (a1:G_Stream) (a2:List Int) {R:Type} (k0:Int→G_Stream→Option R):Option R :=
 (g.z80z a1 (a2.length:Int) (fun r3 r4=>(get_ a2 r3 fun x5=>k0 x5 r4)))
noncomputable def yxpy [Fuel]:C_z65z:=⟨NN,@z80z _⟩
noncomputable def z65z [Fuel]:ye5y:=@z65z_ yxpy
def ydmy (g:ye5y):Spec A:=fun args=>match args with | [.box [.d (.sl 3 a1),.d (.int .i64 a2)],.d (.sl 3 a3)]=>fun k=>g ⟨a1,a2⟩ a3 (fun z0 z1=>k (.d (.int .i64 z0)) [.box [.d (.sl 3 z1.f_L),.d (.int .i64 z1.f_at)],.undef]) | _=>fun _=>none
noncomputable def yPiy:Code:=(Tryz.f9.body).getD .skip
noncomputable def yOWy (g:C_z65z):Env A:=mkE [(35,ydLy g.z80z)] [] [] [] [] [] [] [] [] [0]
theorem yJNy (g:C_z65z):Same (ydmy (@z65z_ g)) (abody (yOWy g) Tryz.f9 yPiy 1 [0] [.asis] g.N):=by intro args; unfold ydmy; split; exact .inr fun R k=>(by kernel_rfl); exact .inl fun R k=>rfl
theorem ydRy [Fuel]:Ok 9 (ydmy (@z65z _)):=yaay std (.cons yh1y .nil) ⟨rfl,rfl,by kernel_rfl,rfl,rfl,rfl⟩ (yJNy yxpy) (cuts0 (fun _=>rfl) (by kernel_rfl)) Tryz.func9 (by kernel_rfl) (by kernel_rfl)
abbrev ysIy:Type 1:=G_Stream→Int→Int→{R:Type}→(Int→G_Stream→Option R)→Option R
structure C_z97z where
 N:Nat
 z80z:yg8y
def z97z_ (g:C_z97z) (a1:G_Stream) (a2 a3:Int) {R:Type} (k0:Int→G_Stream→Option R):Option R :=
 (bif (decide (a3 < a2)) then k0 a2 a1 else (g.z80z a1 (w64 ((w64 (a3 - a2)) + 1)) (fun r4 r5=>k0 (w64 (a2 + r4)) r5)))
noncomputable def yw7y [Fuel]:C_z97z:=⟨NN,@z80z _⟩
noncomputable def z97z [Fuel]:ysIy:=@z97z_ yw7y
def yjZy (g:ysIy):Spec A:=fun args=>match args with | [.box [.d (.sl 3 a1),.d (.int .i64 a2)],.d (.int .i64 a3),.d (.int .i64 a4)]=>fun k=>g ⟨a1,a2⟩ a3 a4 (fun z0 z1=>k (.d (.int .i64 z0)) [.box [.d (.sl 3 z1.f_L),.d (.int .i64 z1.f_at)],.undef,.undef]) | _=>fun _=>none
noncomputable def yPey:Code:=(Tryz.f7.body).getD .skip
noncomputable def yPTy (g:C_z97z):Env A:=mkE [(35,ydLy g.z80z)] [] [] [] [] [] [] [] [] [0]
theorem yJGy (g:C_z97z):Same (yjZy (@z97z_ g)) (abody (yPTy g) Tryz.f7 yPey 1 [0] [.asis] g.N):=by intro args; unfold yjZy; split; exact .inr fun R k=>(by kernel_rfl); exact .inl fun R k=>rfl
theorem yB7y [Fuel]:Ok 7 (yjZy (@z97z _)):=yaay std (.cons yh1y .nil) ⟨rfl,rfl,by kernel_rfl,rfl,rfl,rfl⟩ (yJGy yw7y) (cuts0 (fun _=>rfl) (by kernel_rfl)) Tryz.func7 (by kernel_rfl) (by kernel_rfl)
abbrev ycEy:Type 1:=G_Stream→Int→Int→{R:Type}→(Int→G_Stream→Option R)→Option R
structure C_Stream_Odd where
 N:Nat
 z97z:ysIy
 z65z:ye5y
 z76z:yfry
def ygNy (g:C_Stream_Odd) (a1:G_Stream) (a2 a3:Int) {R:Type} (k0:Int→G_Stream→Option R):Option R :=
 (g.z76z a1 12 (fun r4 r5=>(bif r4 then (g.z65z r5 [(w64 (a2 - 1)),(w64 (a3 + 1)),a2,a3,(-1099511627776),1099511627776] (fun r6 r7=>k0 r6 r7)) else (g.z97z r5 a2 a3 (fun r8 r9=>k0 r8 r9)))))
noncomputable def yfDy [Fuel]:C_Stream_Odd:=⟨NN,@z97z _,@z65z _,@z76z _⟩
noncomputable def Stream_Odd [Fuel]:ycEy:=@ygNy yfDy
def ybTy (g:ycEy):Spec A:=fun args=>match args with | [.box [.d (.sl 3 a1),.d (.int .i64 a2)],.d (.int .i64 a3),.d (.int .i64 a4)]=>fun k=>g ⟨a1,a2⟩ a3 a4 (fun z0 z1=>k (.d (.int .i64 z0)) [.box [.d (.sl 3 z1.f_L),.d (.int .i64 z1.f_at)],.undef,.undef]) | _=>fun _=>none
noncomputable def yJPy:Code:=(Tryz.f37.body).getD .skip
noncomputable def yxOy (g:C_Stream_Odd):Env A:=mkE [(7,yjZy g.z97z),(9,ydmy g.z65z),(34,ydky g.z76z)] [(16,[1])] [] [] [] [] [] [] [] [0]
theorem ywJy (g:C_Stream_Odd):Same (ybTy (@ygNy g)) (abody (yxOy g) Tryz.f37 yJPy 2 [0] [.asis] g.N):=by intro args; unfold ybTy; split; exact .inr fun R k=>(by kernel_rfl); exact .inl fun R k=>rfl
theorem ydby [Fuel]:Ok 37 (ybTy (@Stream_Odd _)):=yaay std (.cons yB7y (.cons ydRy (.cons ydPy .nil))) ⟨rfl,rfl,by kernel_rfl,rfl,rfl,rfl⟩ (ywJy yfDy) (cuts0 (fun _=>rfl) (by kernel_rfl)) Tryz.func37 (by kernel_rfl) (by kernel_rfl)
abbrev yt7y:Type 1:=G_Stream→{R:Type}→(List G_Band→G_Stream→Option R)→Option R
structure C_z101z where
 N:Nat
 z65z:ye5y
 z53z:yx3y
 z76z:yfry
 z80z:yg8y
 z59z:yj7y
 Stream_Odd:ycEy
def z101z_ (g:C_z101z) (a1:G_Stream) {R:Type} (k0:List G_Band→G_Stream→Option R):Option R :=
 (g.z53z a1 (fun r2 r3=>(bif (decide ((r2.length:Int) > 0)) then (g.z76z r3 12 (fun r4 r5=>(bif r4 then (g.z80z r5 (r2.length:Int) (fun r6 r7=>(inr r2 r6 (at_ r2 r6 fun x8=>(at_ r2 r6 fun x9=>(at_ r2 r6 fun x10=>(g.z59z r7 [x8.f_Key,[],[98,50,48]] (fun r11 r12=>(g.Stream_Odd r12 0 20000 (fun r13 r14=>(g.z65z r14 [x9.f_High,(w64 (x10.f_High + 1)),30000000000,30000001000,0] (fun r15 r16=>(at_ r2 r6 fun x17=>(at_ (set_ r2 r6 (⟨r11,x17.f_Low,x17.f_High⟩:G_Band)) r6 fun x18=>(at_ (set_ (set_ r2 r6 (⟨r11,x17.f_Low,x17.f_High⟩:G_Band)) r6 (⟨x18.f_Key,(w64 (1000 * r13)),x18.f_High⟩:G_Band)) r6 fun x19=>k0 (set_ (set_ (set_ r2 r6 (⟨r11,x17.f_Low,x17.f_High⟩:G_Band)) r6 (⟨x18.f_Key,(w64 (1000 * r13)),x18.f_High⟩:G_Band)) r6 (⟨x19.f_Key,x19.f_Low,r15⟩:G_Band)) r16))))))))))))))) else k0 r2 r5))) else k0 r2 r3)))
noncomputable def ykzy [Fuel]:C_z101z:=⟨NN,@z65z _,@z53z _,@z76z _,@z80z _,@z59z _,@Stream_Odd _⟩
noncomputable def z101z [Fuel]:yt7y:=@z101z_ ykzy
def ykSy (g:yt7y):Spec A:=fun args=>match args with | [.box [.d (.sl 3 a1),.d (.int .i64 a2)]]=>fun k=>g ⟨a1,a2⟩ (fun z0 z1=>k (.arr 69 z0) [.box [.d (.sl 3 z1.f_L),.d (.int .i64 z1.f_at)]]) | _=>fun _=>none
noncomputable def yPDy:Code:=(Tryz.f5.body).getD .skip
noncomputable def yLQy (g:C_z101z):Env A:=mkE [(9,ydmy g.z65z),(33,yo1y g.z53z),(34,ydky g.z76z),(35,ydLy g.z80z),(36,ygpy g.z59z),(37,ybTy g.Stream_Odd)] [(6,[1]),(28,[2]),(43,[3])] [] [] [] [] [] [] [] [0]
theorem yH5y (g:C_z101z):Same (ykSy (@z101z_ g)) (abody (yLQy g) Tryz.f5 yPDy 4 [0] [.arr 69] g.N):=by intro args; unfold ykSy; split; exact .inr fun R k=>(by kernel_rfl); exact .inl fun R k=>rfl
theorem yIQy [Fuel]:Ok 5 (ykSy (@z101z _)):=yaay std (.cons ydRy (.cons yOpy (.cons ydPy (.cons yh1y (.cons ykay (.cons ydby .nil)))))) ⟨rfl,rfl,by kernel_rfl,rfl,rfl,rfl⟩ (yH5y ykzy) (cuts0 (fun _=>rfl) (by kernel_rfl)) Tryz.func5 (by kernel_rfl) (by kernel_rfl)
abbrev ytjy:Type 1:=G_Stream→{R:Type}→(List UInt8→G_Stream→Option R)→Option R
structure C_z95z where
 N:Nat
 z76z:yfry
 z59z:yj7y
def z95z_ (g:C_z95z) (a1:G_Stream) {R:Type} (k0:List UInt8→G_Stream→Option R):Option R :=
 (g.z76z a1 60 (fun r2 r3=>(bif r2 then (g.z59z r3 [[],[107,49],[75,49,65,66],[107,49,97,98,47],[49,97],[107,49,97,98,47,109,109,47,112]] (fun r4 r5=>k0 r4 r5)) else (g.z59z r3 [[107,49,97,98],[107,49,97,97],[107,49,97,98,47,52],[111,104,50,97,98,99],[111,104,50,97,98,100],[119,49,97,119],[110,49,109,109],[103,51,120,121,122,47,112]] (fun r6 r7=>k0 r6 r7)))))
noncomputable def yrZy [Fuel]:C_z95z:=⟨NN,@z76z _,@z59z _⟩
noncomputable def z95z [Fuel]:ytjy:=@z95z_ yrZy
def ykuy (g:ytjy):Spec A:=fun args=>match args with | [.box [.d (.sl 3 a1),.d (.int .i64 a2)]]=>fun k=>g ⟨a1,a2⟩ (fun z0 z1=>k (.d (.str z0)) [.box [.d (.sl 3 z1.f_L),.d (.int .i64 z1.f_at)]]) | _=>fun _=>none
noncomputable def yNwy:Code:=(Tryz.f38.body).getD .skip
noncomputable def yO2y (g:C_z95z):Env A:=mkE [(34,ydky g.z76z),(36,ygpy g.z59z)] [(6,[1]),(9,[2])] [] [] [] [] [] [] [] [0]
theorem yMPy (g:C_z95z):Same (ykuy (@z95z_ g)) (abody (yO2y g) Tryz.f38 yNwy 3 [0] [.asis] g.N):=by intro args; unfold ykuy; split; exact .inr fun R k=>(by kernel_rfl); exact .inl fun R k=>rfl
theorem yuFy [Fuel]:Ok 38 (ykuy (@z95z _)):=yaay std (.cons ydPy (.cons ykay .nil)) ⟨rfl,rfl,by kernel_rfl,rfl,rfl,rfl⟩ (yMPy yrZy) (cuts0 (fun _=>rfl) (by kernel_rfl)) Tryz.func38 (by kernel_rfl) (by kernel_rfl)
abbrev yuRy:Type 1:=Int→{R:Type}→(Bool→Option R)→Option R
def z114z_ (g:Nat) (a1:Int) {R:Type} (k0:Bool→Option R):Option R :=
 k0 (a1 != a1)
noncomputable def z114z [Fuel]:yuRy:=@z114z_ NN
def ylay (g:yuRy):Spec A:=fun args=>match args with | [.d (.int .i64 a1)]=>fun k=>g a1 (fun z0=>k (.d (.bool z0)) [.undef]) | _=>fun _=>none
noncomputable def yJuy:Code:=(Tryz.f165.body).getD .skip
noncomputable def yJWy (g:Nat):Env A:=mkE [] [] [] [] [] [] [] [] [] []
theorem yIpy (g:Nat):Same (ylay (@z114z_ g)) (abody (yJWy g) Tryz.f165 yJuy 0 [] [.asis] g):=by intro args; unfold ylay; split; exact .inr fun R k=>(by kernel_rfl); exact .inl fun R k=>rfl
theorem yHzy [Fuel]:Ok 165 (ylay (@z114z _)):=yaay std .nil ⟨rfl,rfl,by kernel_rfl,rfl,rfl,rfl⟩ (yIpy NN) (cuts0 (fun _=>rfl) (by kernel_rfl)) Tryz.func165 (by kernel_rfl) (by kernel_rfl)
abbrev ykry:Type 1:=Int→Int→{R:Type}→(Int→Option R)→Option R
structure C_z69z where
 N:Nat
 z114z:yuRy
def z69z_ (g:C_z69z) (a1 a2:Int) {R:Type} (k0:Int→Option R):Option R :=
 (g.z114z a1 (fun r3=>(g.z114z a2 (fun r4=>(bif r3 then (bif r4 then k0 0 else k0 (-1)) else (bif r4 then k0 1 else (bif (decide (a1 < a2)) then k0 (-1) else (bif (decide (a1 > a2)) then k0 1 else k0 0))))))))
noncomputable def ywSy [Fuel]:C_z69z:=⟨NN,@z114z _⟩
noncomputable def z69z [Fuel]:ykry:=@z69z_ ywSy
def ygry (g:ykry):Spec A:=fun args=>match args with | [.d (.int .i64 a1),.d (.int .i64 a2)]=>fun k=>g a1 a2 (fun z0=>k (.d (.int .i64 z0)) [.undef,.undef]) | _=>fun _=>none
noncomputable def yIWy:Code:=(Tryz.f124.body).getD .skip
noncomputable def yOUy (g:C_z69z):Env A:=mkE [(165,ylay g.z114z)] [] [] [] [] [] [] [] [] []
theorem yM8y (g:C_z69z):Same (ygry (@z69z_ g)) (abody (yOUy g) Tryz.f124 yIWy 0 [] [.asis] g.N):=by intro args; unfold ygry; split; exact .inr fun R k=>(by kernel_rfl); exact .inl fun R k=>rfl
theorem ykyy [Fuel]:Ok 124 (ygry (@z69z _)):=yaay std (.cons yHzy .nil) ⟨rfl,rfl,by kernel_rfl,rfl,rfl,rfl⟩ (yM8y ywSy) (cuts0 (fun _=>rfl) (by kernel_rfl)) Tryz.func124 (by kernel_rfl) (by kernel_rfl)
abbrev yz4y:Type 1:=List Int→List Int→{R:Type}→(Int→Option R)→Option R
structure C_z56z where
 N:Nat
 z69z:ykry
def z56z_L2 (g:C_z56z):Nat→List Int→List Int→List Int→Int→Int→{R:Type}→(List Int→List Int→Int→Option R)→(List Int→List Int→Option R)→Option R
 | 0,_,_,_,_,_,_,_,_=>none
 | n + 1,v3,v4,v5,v6,v7,_,e0,e1=>(bif (decide (v7 < v6)) then (get_ v5 v7 fun x11=>(bif (decide (v7 ≥ (v4.length:Int))) then e0 v3 v4 1 else (get_ v4 v7 fun x12=>(g.z69z x11 x12 (fun r13=>(bif (r13 != 0) then e0 v3 v4 r13 else z56z_L2 g n v3 v4 v5 v6 (w64 (v7 + 1)) e0 e1)))))) else e1 v3 v4)
def z56z_ (g:C_z56z) (a1 a2:List Int) {R:Type} (k0:Int→Option R):Option R :=
 (z56z_L2 g g.N a1 a2 a1 (a1.length:Int) 0 (fun e14 e15 e16=>k0 e16) (fun e17 e18=>(bif (decide ((e17.length:Int) < (e18.length:Int))) then k0 (-1) else k0 0)))
noncomputable def yhhy [Fuel]:C_z56z:=⟨NN,@z69z _⟩
noncomputable def z56z [Fuel]:yz4y:=@z56z_ yhhy
def yo4y (g:yz4y):Spec A:=fun args=>match args with | [.d (.sl 3 a1),.d (.sl 3 a2)]=>fun k=>g a1 a2 (fun z0=>k (.d (.int .i64 z0)) [.undef,.undef]) | _=>fun _=>none
def ykTy:SSt:=mkSh 36 0 [(0,.sl 3),(1,.sl 3),(9,.sl 3),(10,.int .i64),(11,.int .i64)] []
def yeMy (g:C_z56z) (n:Nat):LPT A:=fun ps=>match ps with | [.d (.sl 3 p1),.d (.sl 3 p2),.d (.sl 3 p3),.d (.int .i64 p4),.d (.int .i64 p5)]=>fun K=>z56z_L2 g n p1 p2 p3 p4 p5 (fun z0 z1 z2=>K .ret (mkSt 36 0 [(0,.d (.sl 3 z0)),(1,.d (.sl 3 z1)),(4,.d (.int .i64 z2))] [])) (fun z0 z1=>K (.exit 0) (mkSt 36 0 [(0,.d (.sl 3 z0)),(1,.d (.sl 3 z1))] [])) | _=>fun _=>none
noncomputable def yBXy:Code:=(Tryz.f90.body).getD .skip
noncomputable def yrUy (g:C_z56z):Env A:=mkE [(124,ygry g.z69z)] [] [(2,⟨[0,1,9,10,11],[],[],[],[],[],[]⟩)] [(2,⟨[0,1,4],[],[],[],[],[],[]⟩)] [(2,yaey ykTy (yeMy g g.N))] [] [] [] [] []
theorem yKAy [Fuel]:yagy (yrUy yhhy).C:=ct_of (P:=Tryz.prog) (T:=T) (.cons ykyy .nil) (by kernel_rfl)
noncomputable def ysjy:Code:=sub [1,0,1,0,0] yBXy
theorem yFOy (g:C_z56z) (n:Nat):yahy (yrUy g) g.N ysjy ykTy (yeMy g) n:=by intro ps; unfold yeMy; split; exact .inr fun R K=>(by kernel_rfl); exact .inl fun R K=>rfl
theorem yECy [Fuel]:yacy (yrUy yhhy) NN ysjy:=yaby ykTy (yeMy yhhy) (by kernel_rfl) yKAy (cuts0 (fun _=>rfl) (by kernel_rfl)) (fun ps R K=>by unfold yeMy; split <;> (try unfold z56z_L2) <;> rfl) (yFOy yhhy)
theorem yJVy (g:C_z56z):Same (yo4y (@z56z_ g)) (abody (yrUy g) Tryz.f90 yBXy 0 [] [.asis] g.N):=by intro args; unfold yo4y; split; exact .inr fun R k=>(by kernel_rfl); exact .inl fun R k=>rfl
theorem yLcy [Fuel]:Ok 90 (yo4y (@z56z _)):=yaay std (.cons ykyy .nil) ⟨rfl,rfl,by kernel_rfl,rfl,rfl,rfl⟩ (yJVy yhhy) (cutsL (fun _=>rfl) (.cons yECy .nil) (by kernel_rfl)) Tryz.func90 (by kernel_rfl) (by kernel_rfl)
abbrev yuIy:Type 1:=List UInt8→{R:Type}→(Bool→Option R)→Option R
def z107z_ (g:Nat) (a1:List UInt8) {R:Type} (k0:Bool→Option R):Option R :=
 k0 (!(a1 == a1))
noncomputable def z107z [Fuel]:yuIy:=@z107z_ NN
def ylcy (g:yuIy):Spec A:=fun args=>match args with | [.d (.str a1)]=>fun k=>g a1 (fun z0=>k (.d (.bool z0)) [.undef]) | _=>fun _=>none
noncomputable def yJqy:Code:=(Tryz.f172.body).getD .skip
noncomputable def yL1y (g:Nat):Env A:=mkE [] [] [] [] [] [] [] [] [] []
theorem yICy (g:Nat):Same (ylcy (@z107z_ g)) (abody (yL1y g) Tryz.f172 yJqy 0 [] [.asis] g):=by intro args; unfold ylcy; split; exact .inr fun R k=>(by kernel_rfl); exact .inl fun R k=>rfl
theorem yJpy [Fuel]:Ok 172 (ylcy (@z107z _)):=yaay std .nil ⟨rfl,rfl,by kernel_rfl,rfl,rfl,rfl⟩ (yICy NN) (cuts0 (fun _=>rfl) (by kernel_rfl)) Tryz.func172 (by kernel_rfl) (by kernel_rfl)
abbrev yzSy:Type 1:=List UInt8→List UInt8→{R:Type}→(Int→Option R)→Option R
structure C_z88z where
 N:Nat
 z107z:yuIy
def z88z_ (g:C_z88z) (a1 a2:List UInt8) {R:Type} (k0:Int→Option R):Option R :=
 (g.z107z a1 (fun r3=>(g.z107z a2 (fun r4=>(bif r3 then (bif r4 then k0 0 else k0 (-1)) else (bif r4 then k0 1 else (bif (Op.bytesLess a1 a2) then k0 (-1) else (bif (!(Op.bytesLess a1 a2 || a1 == a2)) then k0 1 else k0 0))))))))
noncomputable def yzyy [Fuel]:C_z88z:=⟨NN,@z107z _⟩
noncomputable def z88z [Fuel]:yzSy:=@z88z_ yzyy
def ypky (g:yzSy):Spec A:=fun args=>match args with | [.d (.str a1),.d (.str a2)]=>fun k=>g a1 a2 (fun z0=>k (.d (.int .i64 z0)) [.undef,.undef]) | _=>fun _=>none
noncomputable def yIsy:Code:=(Tryz.f130.body).getD .skip
noncomputable def yPRy (g:C_z88z):Env A:=mkE [(172,ylcy g.z107z)] [] [] [] [] [] [] [] [] []
theorem yMry (g:C_z88z):Same (ypky (@z88z_ g)) (abody (yPRy g) Tryz.f130 yIsy 0 [] [.asis] g.N):=by intro args; unfold ypky; split; exact .inr fun R k=>(by kernel_rfl); exact .inl fun R k=>rfl
theorem yCVy [Fuel]:Ok 130 (ypky (@z88z _)):=yaay std (.cons yJpy .nil) ⟨rfl,rfl,by kernel_rfl,rfl,rfl,rfl⟩ (yMry yzyy) (cuts0 (fun _=>rfl) (by kernel_rfl)) Tryz.func130 (by kernel_rfl) (by kernel_rfl)
abbrev yzxy:Type 1:=List (List UInt8)→List (List UInt8)→{R:Type}→(Int→Option R)→Option R
structure C_z44z where
 N:Nat
 z88z:yzSy
def z44z_L2 (g:C_z44z):Nat→List (List UInt8)→List (List UInt8)→List (List UInt8)→Int→Int→{R:Type}→(List (List UInt8)→List (List UInt8)→Int→Option R)→(List (List UInt8)→List (List UInt8)→Option R)→Option R
 | 0,_,_,_,_,_,_,_,_=>none
 | n + 1,v3,v4,v5,v6,v7,_,e0,e1=>(bif (decide (v7 < v6)) then (get_ v5 v7 fun x11=>(bif (decide (v7 ≥ (v4.length:Int))) then e0 v3 v4 1 else (get_ v4 v7 fun x12=>(g.z88z x11 x12 (fun r13=>(bif (r13 != 0) then e0 v3 v4 r13 else z44z_L2 g n v3 v4 v5 v6 (w64 (v7 + 1)) e0 e1)))))) else e1 v3 v4)
def z44z_ (g:C_z44z) (a1 a2:List (List UInt8)) {R:Type} (k0:Int→Option R):Option R :=
 (z44z_L2 g g.N a1 a2 a1 (a1.length:Int) 0 (fun e14 e15 e16=>k0 e16) (fun e17 e18=>(bif (decide ((e17.length:Int) < (e18.length:Int))) then k0 (-1) else k0 0)))
noncomputable def yhuy [Fuel]:C_z44z:=⟨NN,@z88z _⟩
noncomputable def z44z [Fuel]:yzxy:=@z44z_ yhuy
def ypLy (g:yzxy):Spec A:=fun args=>match args with | [.d (.sl 9 a1),.d (.sl 9 a2)]=>fun k=>g a1 a2 (fun z0=>k (.d (.int .i64 z0)) [.undef,.undef]) | _=>fun _=>none
def ymiy:SSt:=mkSh 36 0 [(0,.sl 9),(1,.sl 9),(9,.sl 9),(10,.int .i64),(11,.int .i64)] []
def yfTy (g:C_z44z) (n:Nat):LPT A:=fun ps=>match ps with | [.d (.sl 9 p1),.d (.sl 9 p2),.d (.sl 9 p3),.d (.int .i64 p4),.d (.int .i64 p5)]=>fun K=>z44z_L2 g n p1 p2 p3 p4 p5 (fun z0 z1 z2=>K .ret (mkSt 36 0 [(0,.d (.sl 9 z0)),(1,.d (.sl 9 z1)),(4,.d (.int .i64 z2))] [])) (fun z0 z1=>K (.exit 0) (mkSt 36 0 [(0,.d (.sl 9 z0)),(1,.d (.sl 9 z1))] [])) | _=>fun _=>none
noncomputable def yBoy:Code:=(Tryz.f91.body).getD .skip
noncomputable def ysTy (g:C_z44z):Env A:=mkE [(130,ypky g.z88z)] [] [(2,⟨[0,1,9,10,11],[],[],[],[],[],[]⟩)] [(2,⟨[0,1,4],[],[],[],[],[],[]⟩)] [(2,yaey ymiy (yfTy g g.N))] [] [] [] [] []
theorem yOFy [Fuel]:yagy (ysTy yhuy).C:=ct_of (P:=Tryz.prog) (T:=T) (.cons yCVy .nil) (by kernel_rfl)
noncomputable def ytny:Code:=sub [1,0,1,0,0] yBoy
theorem yFYy (g:C_z44z) (n:Nat):yahy (ysTy g) g.N ytny ymiy (yfTy g) n:=by intro ps; unfold yfTy; split; exact .inr fun R K=>(by kernel_rfl); exact .inl fun R K=>rfl
theorem yDLy [Fuel]:yacy (ysTy yhuy) NN ytny:=yaby ymiy (yfTy yhuy) (by kernel_rfl) yOFy (cuts0 (fun _=>rfl) (by kernel_rfl)) (fun ps R K=>by unfold yfTy; split <;> (try unfold z44z_L2) <;> rfl) (yFYy yhuy)
theorem yLdy (g:C_z44z):Same (ypLy (@z44z_ g)) (abody (ysTy g) Tryz.f91 yBoy 0 [] [.asis] g.N):=by intro args; unfold ypLy; split; exact .inr fun R k=>(by kernel_rfl); exact .inl fun R k=>rfl
theorem yLHy [Fuel]:Ok 91 (ypLy (@z44z _)):=yaay std (.cons yCVy .nil) ⟨rfl,rfl,by kernel_rfl,rfl,rfl,rfl⟩ (yLdy yhuy) (cutsL (fun _=>rfl) (.cons yDLy .nil) (by kernel_rfl)) Tryz.func91 (by kernel_rfl) (by kernel_rfl)
abbrev ysAy:Type 1:=G_Spot→G_Spot→{R:Type}→(Int→Option R)→Option R
structure C_z20z where
 N:Nat
 z56z:yz4y
 z44z:yzxy
def z20z_ (g:C_z20z) (a1 a2:G_Spot) {R:Type} (k0:Int→Option R):Option R :=
 (g.z56z [a1.f_At,a1.f_Hertz] [a2.f_At,a2.f_Hertz] (fun r3=>(bif (r3 != 0) then k0 r3 else (g.z44z [a1.f_Call,a1.f_By] [a2.f_Call,a2.f_By] (fun r4=>k0 r4)))))
noncomputable def yxgy [Fuel]:C_z20z:=⟨NN,@z56z _,@z44z _⟩
noncomputable def z20z [Fuel]:ysAy:=@z20z_ yxgy
def ykwy (g:ysAy):Spec A:=fun args=>match args with | [.agg [.d (.int .i64 a1),.d (.int .i64 a2),.d (.str a3),.d (.str a4)],.agg [.d (.int .i64 a5),.d (.int .i64 a6),.d (.str a7),.d (.str a8)]]=>fun k=>g ⟨a1,a2,a3,a4⟩ ⟨a5,a6,a7,a8⟩ (fun z0=>k (.d (.int .i64 z0)) [.undef,.undef]) | _=>fun _=>none
noncomputable def yKxy:Code:=(Tryz.f40.body).getD .skip
noncomputable def yPhy (g:C_z20z):Env A:=mkE [(90,yo4y g.z56z),(91,ypLy g.z44z)] [(2,[0]),(3,[1]),(10,[2]),(15,[3]),(24,[4]),(29,[5])] [] [] [] [] [] [] [] []
theorem yNqy (g:C_z20z):Same (ykwy (@z20z_ g)) (abody (yPhy g) Tryz.f40 yKxy 6 [] [.asis] g.N):=by intro args; unfold ykwy; split; exact .inr fun R k=>(by kernel_rfl); exact .inl fun R k=>rfl
theorem yo0y [Fuel]:Ok 40 (ykwy (@z20z _)):=yaay std (.cons yLcy (.cons yLHy .nil)) ⟨rfl,rfl,by kernel_rfl,rfl,rfl,rfl⟩ (yNqy yxgy) (cuts0 (fun _=>rfl) (by kernel_rfl)) Tryz.func40 (by kernel_rfl) (by kernel_rfl)
end Go.Am
