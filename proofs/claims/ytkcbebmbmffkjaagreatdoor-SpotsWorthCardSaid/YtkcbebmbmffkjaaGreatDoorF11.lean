/- The functions of the program as Lean functions, each shown to be what the code computes, part 11. No condition: lemmas for the claim. -/
import Derived.Test.YtkcbebmbmffkjaaGreatDoorF0
import Derived.Test.YtkcbebmbmffkjaaGreatDoorFSh
import Derived.Test.YtkcbebmbmffkjaaGreatDoorF2
import Derived.Test.YtkcbebmbmffkjaaGreatDoorF10
set_option linter.unusedVariables false
set_option maxRecDepth 100000
namespace Go.Am
open Go Go.Proofs
abbrev yzhy:Type 1:=List G_Contact→Int→Int→List G_Band→G_Spot→{R:Type}→(Int→Int→Int→List G_Band→G_Spot→Option R)→Option R
structure C_z22z where
 N:Nat
 z34z:yyXy
def z22z_L2 (g:C_z22z):Nat→List G_Contact→Int→Int→Int→Int→List G_Band→G_Spot→{R:Type}→(Int→Int→Int→List G_Band→G_Spot→Option R)→(Int→Int→List G_Band→G_Spot→Option R)→Option R
 | 0,_,_,_,_,_,_,_,_,_,_=>none
 | n + 1,v6,v7,v8,v9,v10,v11,v12,_,e0,e1=>(bif (decide (v8 < v7)) then (get_ v6 v8 fun x19=>(g.z34z x19 v9 v10 v11 v12 (fun r20 r21 r22 r23 r24=>(bif r20 then e0 v8 r21 r22 r23 r24 else z22z_L2 g n v6 v7 (w64 (v8 + 1)) r21 r22 r23 r24 e0 e1)))) else e1 v9 v10 v11 v12)
def z22z_ (g:C_z22z) (a1:List G_Contact) (a2 a3:Int) (a4:List G_Band) (a5:G_Spot) {R:Type} (k0:Int→Int→Int→List G_Band→G_Spot→Option R):Option R :=
 (z22z_L2 g g.N a1 (a1.length:Int) 0 a2 a3 a4 a5 (fun e25 e26 e27 e28 e29=>k0 e25 e26 e27 e28 e29) (fun e30 e31 e32 e33=>k0 (-1) e30 e31 e32 e33))
noncomputable def yfey [Fuel]:C_z22z:=⟨NN,@z34z _⟩
noncomputable def z22z [Fuel]:yzhy:=@z22z_ yfey
def yoVy (g:yzhy):Spec A:=fun args=>match args with | [.d (.sl 77 a1),.fn 66 [.box [.d (.int .i64 a2)],.box [.d (.int .i64 a3)],.box [.d (.sl 69 a4)],.box [.d (.int .i64 a5),.d (.int .i64 a6),.d (.str a7),.d (.str a8)]]]=>fun k=>g a1 a2 a3 a4 ⟨a5,a6,a7,a8⟩ (fun z0 z1 z2 z3 z4=>k (.d (.int .i64 z0)) [.undef,.fn 66 [.box [.d (.int .i64 z1)],.box [.d (.int .i64 z2)],.box [.d (.sl 69 z3)],.box [.d (.int .i64 z4.f_At),.d (.int .i64 z4.f_Hertz),.d (.str z4.f_Call),.d (.str z4.f_By)]]]) | _=>fun _=>none
def ymky:SSt:=mkSh 19 4 [(0,.sl 77),(1,.fn 66 [.ptr 0 0,.ptr 1 0,.ptr 2 0,.ptr 3 0]),(7,.int .i64),(8,.int .i64)] [(0,.box [.int .i64]),(1,.box [.int .i64]),(2,.box [.sl 69]),(3,.box [.int .i64,.int .i64,.str,.str])]
def yfBy (g:C_z22z) (n:Nat):LPT A:=fun ps=>match ps with | [.d (.sl 77 p1),.d (.int .i64 p2),.d (.int .i64 p3),.d (.int .i64 p4),.d (.int .i64 p5),.d (.sl 69 p6),.d (.int .i64 p7),.d (.int .i64 p8),.d (.str p9),.d (.str p10)]=>fun K=>z22z_L2 g n p1 p2 p3 p4 p5 p6 ⟨p7,p8,p9,p10⟩ (fun z0 z1 z2 z3 z4=>K .ret (mkSt 19 4 [(1,.fn 66 [.ptr 0 0,.ptr 1 0,.ptr 2 0,.ptr 3 0]),(4,.d (.int .i64 z0))] [(0,some (.box [.d (.int .i64 z1)])),(1,some (.box [.d (.int .i64 z2)])),(2,some (.box [.d (.sl 69 z3)])),(3,some (.box [.d (.int .i64 z4.f_At),.d (.int .i64 z4.f_Hertz),.d (.str z4.f_Call),.d (.str z4.f_By)]))])) (fun z0 z1 z2 z3=>K (.exit 0) (mkSt 19 4 [(1,.fn 66 [.ptr 0 0,.ptr 1 0,.ptr 2 0,.ptr 3 0])] [(0,some (.box [.d (.int .i64 z0)])),(1,some (.box [.d (.int .i64 z1)])),(2,some (.box [.d (.sl 69 z2)])),(3,some (.box [.d (.int .i64 z3.f_At),.d (.int .i64 z3.f_Hertz),.d (.str z3.f_Call),.d (.str z3.f_By)]))])) | _=>fun _=>none
noncomputable def yzby:Code:=(Tryz.f111.body).getD .skip
noncomputable def yrzy (g:C_z22z):Env A:=mkE [(66,ypBy g.z34z)] [] [(2,⟨[0,1,7,8],[],[0,1,2,3],[],[],[],[]⟩)] [(2,⟨[1,4],[],[0,1,2,3],[],[],[],[]⟩)] [(2,yaey ymky (yfBy g g.N))] [] [] [] [] [1]
theorem yLry [Fuel]:yagy (yrzy yfey).C:=ct_of (P:=Tryz.prog) (T:=T) (.cons yBry .nil) (by kernel_rfl)
noncomputable def yr8y:Code:=sub [1,0,1,0,0] yzby
theorem yFZy (g:C_z22z) (n:Nat):yahy (yrzy g) g.N yr8y ymky (yfBy g) n:=by intro ps; unfold yfBy; split; exact .inr fun R K=>(by kernel_rfl); exact .inl fun R K=>rfl
theorem yEAy [Fuel]:yacy (yrzy yfey) NN yr8y:=yaby ymky (yfBy yfey) (by kernel_rfl) yLry (cuts0 (fun _=>rfl) (by kernel_rfl)) (fun ps R K=>by unfold yfBy; split <;> (try unfold z22z_L2) <;> rfl) (yFZy yfey)
theorem yJ5y (g:C_z22z):Same (yoVy (@z22z_ g)) (abody (yrzy g) Tryz.f111 yzby 4 [0,1,2,3] [.asis] g.N):=by intro args; unfold yoVy; split; exact .inr fun R k=>(by kernel_rfl); exact .inl fun R k=>rfl
theorem yNpy [Fuel]:Ok 111 (yoVy (@z22z _)):=yaay std (.cons yBry .nil) ⟨rfl,rfl,by kernel_rfl,rfl,rfl,rfl⟩ (yJ5y yfey) (cutsL (fun _=>rfl) (.cons yEAy .nil) (by kernel_rfl)) Tryz.func111 (by kernel_rfl) (by kernel_rfl)
abbrev yxsy:Type 1:=List G_Contact→Int→Int→List G_Band→G_Spot→{R:Type}→(Bool→Int→Int→List G_Band→G_Spot→Option R)→Option R
structure C_z52z where
 N:Nat
 z22z:yzhy
def z52z_ (g:C_z52z) (a1:List G_Contact) (a2 a3:Int) (a4:List G_Band) (a5:G_Spot) {R:Type} (k0:Bool→Int→Int→List G_Band→G_Spot→Option R):Option R :=
 (g.z22z a1 a2 a3 a4 a5 (fun r6 r7 r8 r9 r10=>k0 (decide (r6 ≥ 0)) r7 r8 r9 r10))
noncomputable def yGOy [Fuel]:C_z52z:=⟨NN,@z22z _⟩
noncomputable def z52z [Fuel]:yxsy:=@z52z_ yGOy
def ypHy (g:yxsy):Spec A:=fun args=>match args with | [.d (.sl 77 a1),.fn 66 [.box [.d (.int .i64 a2)],.box [.d (.int .i64 a3)],.box [.d (.sl 69 a4)],.box [.d (.int .i64 a5),.d (.int .i64 a6),.d (.str a7),.d (.str a8)]]]=>fun k=>g a1 a2 a3 a4 ⟨a5,a6,a7,a8⟩ (fun z0 z1 z2 z3 z4=>k (.d (.bool z0)) [.undef,.fn 66 [.box [.d (.int .i64 z1)],.box [.d (.int .i64 z2)],.box [.d (.sl 69 z3)],.box [.d (.int .i64 z4.f_At),.d (.int .i64 z4.f_Hertz),.d (.str z4.f_Call),.d (.str z4.f_By)]]]) | _=>fun _=>none
noncomputable def yOyy:Code:=(Tryz.f65.body).getD .skip
noncomputable def yOMy (g:C_z52z):Env A:=mkE [(111,yoVy g.z22z)] [] [] [] [] [] [] [] [(111,0)] [1]
theorem yKhy (g:C_z52z):Same (ypHy (@z52z_ g)) (abody (yOMy g) Tryz.f65 yOyy 4 [0,1,2,3] [.asis] g.N):=by intro args; unfold ypHy; split; exact .inr fun R k=>(by kernel_rfl); exact .inl fun R k=>rfl
theorem yNoy [Fuel]:Ok 65 (ypHy (@z52z _)):=yaay std (.cons yNpy .nil) ⟨rfl,rfl,by kernel_rfl,rfl,rfl,rfl⟩ (yKhy yGOy) (cuts0 (fun _=>rfl) (by kernel_rfl)) Tryz.func65 (by kernel_rfl) (by kernel_rfl)
abbrev ysuy:Type 1:=G_Spot→List G_Contact→Int→Int→List G_Band→{R:Type}→(Bool→List G_Contact→Int→Int→List G_Band→Option R)→Option R
structure C_z14z where
 N:Nat
 z52z:yxsy
def z14z_ (g:C_z14z) (a1:G_Spot) (a2:List G_Contact) (a3 a4:Int) (a5:List G_Band) {R:Type} (k0:Bool→List G_Contact→Int→Int→List G_Band→Option R):Option R :=
 (g.z52z a2 a3 a4 a5 a1 (fun r6 r7 r8 r9 r10=>k0 r6 a2 r7 r8 r9))
noncomputable def yGwy [Fuel]:C_z14z:=⟨NN,@z52z _⟩
noncomputable def z14z [Fuel]:ysuy:=@z14z_ yGwy
def yksy (g:ysuy):Spec A:=fun args=>match args with | [.agg [.d (.int .i64 a1),.d (.int .i64 a2),.d (.str a3),.d (.str a4)],.box [.d (.sl 77 a5)],.box [.d (.int .i64 a6)],.box [.d (.int .i64 a7)],.box [.d (.sl 69 a8)]]=>fun k=>g ⟨a1,a2,a3,a4⟩ a5 a6 a7 a8 (fun z0 z1 z2 z3 z4=>k (.d (.bool z0)) [.undef,.box [.d (.sl 77 z1)],.box [.d (.int .i64 z2)],.box [.d (.int .i64 z3)],.box [.d (.sl 69 z4)]]) | _=>fun _=>none
noncomputable def yOoy:Code:=(Tryz.f64.body).getD .skip
noncomputable def yPPy (g:C_z14z):Env A:=mkE [(65,ypHy g.z52z)] [(5,[4])] [] [] [] [] [] [] [] [1,2,3,4]
theorem yKRy (g:C_z14z):Same (yksy (@z14z_ g)) (abody (yPPy g) Tryz.f64 yOoy 5 [0,1,2,3] [.asis] g.N):=by intro args; unfold yksy; split; exact .inr fun R k=>(by kernel_rfl); exact .inl fun R k=>rfl
theorem yoFy [Fuel]:Ok 64 (yksy (@z14z _)):=yaay std (.cons yNoy .nil) ⟨rfl,rfl,by kernel_rfl,rfl,rfl,rfl⟩ (yKRy yGwy) (cuts0 (fun _=>rfl) (by kernel_rfl)) Tryz.func64 (by kernel_rfl) (by kernel_rfl)
abbrev yyVy:Type 1:=List G_Spot→List G_Contact→Int→Int→List G_Band→{R:Type}→(Int→List G_Spot→List G_Contact→Int→Int→List G_Band→Option R)→Option R
structure C_z25z where
 N:Nat
 z14z:ysuy
def z25z_L2 (g:C_z25z):Nat→Int→Int→List G_Spot→List G_Contact→Int→Int→List G_Band→{R:Type}→(Int→List G_Spot→List G_Contact→Int→Int→List G_Band→Option R)→(List G_Spot→List G_Contact→Int→Int→List G_Band→Option R)→Option R
 | 0,_,_,_,_,_,_,_,_,_,_=>none
 | n + 1,v6,v7,v8,v9,v10,v11,v12,_,e0,e1=>(bif (decide (v7 < v6)) then (inr v8 v7 (at_ v8 v7 fun x19=>(g.z14z x19 v9 v10 v11 v12 (fun r20 r21 r22 r23 r24=>(bif r20 then e0 v7 v8 r21 r22 r23 r24 else z25z_L2 g n v6 (w64 (v7 + 1)) v8 r21 r22 r23 r24 e0 e1))))) else e1 v8 v9 v10 v11 v12)
def z25z_ (g:C_z25z) (a1:List G_Spot) (a2:List G_Contact) (a3 a4:Int) (a5:List G_Band) {R:Type} (k0:Int→List G_Spot→List G_Contact→Int→Int→List G_Band→Option R):Option R :=
 (z25z_L2 g g.N (a1.length:Int) 0 a1 a2 a3 a4 a5 (fun e25 e26 e27 e28 e29 e30=>k0 e25 e26 e27 e28 e29 e30) (fun e31 e32 e33 e34 e35=>k0 (-1) e31 e32 e33 e34 e35))
noncomputable def yf0y [Fuel]:C_z25z:=⟨NN,@z14z _⟩
noncomputable def z25z [Fuel]:yyVy:=@z25z_ yf0y
def yoyy (g:yyVy):Spec A:=fun args=>match args with | [.arr 52 a1,.fn 64 [.box [.d (.sl 77 a2)],.box [.d (.int .i64 a3)],.box [.d (.int .i64 a4)],.box [.d (.sl 69 a5)]]]=>fun k=>g a1 a2 a3 a4 a5 (fun z0 z1 z2 z3 z4 z5=>k (.d (.int .i64 z0)) [.arr 52 z1,.fn 64 [.box [.d (.sl 77 z2)],.box [.d (.int .i64 z3)],.box [.d (.int .i64 z4)],.box [.d (.sl 69 z5)]]]) | _=>fun _=>none
def yk3y:SSt:=mkSh 19 5 [(0,.own 52 0),(1,.fn 64 [.ptr 1 0,.ptr 2 0,.ptr 3 0,.ptr 4 0]),(7,.int .i64),(8,.int .i64)] [(0,.row 52),(1,.box [.sl 77]),(2,.box [.int .i64]),(3,.box [.int .i64]),(4,.box [.sl 69])]
def yfFy (g:C_z25z) (n:Nat):LPT A:=fun ps=>match ps with | [.d (.int .i64 p1),.d (.int .i64 p2),.d (.sl 52 p3),.d (.sl 77 p4),.d (.int .i64 p5),.d (.int .i64 p6),.d (.sl 69 p7)]=>fun K=>z25z_L2 g n p1 p2 p3 p4 p5 p6 p7 (fun z0 z1 z2 z3 z4 z5=>K .ret (mkSt 19 5 [(0,.own 52 0),(1,.fn 64 [.ptr 1 0,.ptr 2 0,.ptr 3 0,.ptr 4 0]),(4,.d (.int .i64 z0))] [(0,some (.row 52 z1)),(1,some (.box [.d (.sl 77 z2)])),(2,some (.box [.d (.int .i64 z3)])),(3,some (.box [.d (.int .i64 z4)])),(4,some (.box [.d (.sl 69 z5)]))])) (fun z0 z1 z2 z3 z4=>K (.exit 0) (mkSt 19 5 [(0,.own 52 0),(1,.fn 64 [.ptr 1 0,.ptr 2 0,.ptr 3 0,.ptr 4 0])] [(0,some (.row 52 z0)),(1,some (.box [.d (.sl 77 z1)])),(2,some (.box [.d (.int .i64 z2)])),(3,some (.box [.d (.int .i64 z3)])),(4,some (.box [.d (.sl 69 z4)]))])) | _=>fun _=>none
noncomputable def ytyy (g:C_z25z):Env A:=mkE [(64,yksy g.z14z)] [] [(2,⟨[0,1,7,8],[],[0,1,2,3,4],[],[],[],[]⟩)] [(2,⟨[0,1,4],[],[0,1,2,3,4],[],[],[],[]⟩)] [(2,yaey yk3y (yfFy g g.N))] [] [] [] [] [0,1]
theorem yKYy [Fuel]:yagy (ytyy yf0y).C:=ct_of (P:=Tryz.prog) (T:=T) (.cons yoFy .nil) (by kernel_rfl)
noncomputable def ysyy:Code:=sub [1,0,1,0,0] ygyy
theorem yFcy (g:C_z25z) (n:Nat):yahy (ytyy g) g.N ysyy yk3y (yfFy g) n:=by intro ps; unfold yfFy; split; exact .inr fun R K=>(by kernel_rfl); exact .inl fun R K=>rfl
theorem yDjy [Fuel]:yacy (ytyy yf0y) NN ysyy:=yaby yk3y (yfFy yf0y) (by kernel_rfl) yKYy (cuts0 (fun _=>rfl) (by kernel_rfl)) (fun ps R K=>by unfold yfFy; split <;> (try unfold z25z_L2) <;> rfl) (yFcy yf0y)
theorem yMQy (g:C_z25z):Same (yoyy (@z25z_ g)) (abody (ytyy g) Tryz.f110 ygyy 5 [0,1,2,3,4] [.asis] g.N):=by intro args; unfold yoyy; split; exact .inr fun R k=>(by kernel_rfl); exact .inl fun R k=>rfl
theorem yBVy [Fuel]:Ok 110 (yoyy (@z25z _)):=yaay std (.cons yoFy .nil) ⟨rfl,rfl,by kernel_rfl,rfl,rfl,rfl⟩ (yMQy yf0y) (cutsL (fun _=>rfl) (.cons yDjy .nil) (by kernel_rfl)) Tryz.func110 (by kernel_rfl) (by kernel_rfl)
abbrev ywMy:Type 1:=List G_Spot→List G_Contact→Int→Int→List G_Band→{R:Type}→(List G_Spot→List G_Contact→Int→Int→List G_Band→Option R)→Option R
structure C_z23z where
 N:Nat
 z14z:ysuy
 z25z:yyVy
def z23z_L5 (g:C_z23z):Nat→Int→Int→List G_Spot→List G_Contact→Int→Int→List G_Band→{R:Type}→(Int→List G_Spot→List G_Contact→Int→Int→List G_Band→Option R)→Option R
 | 0,_,_,_,_,_,_,_,_,_=>none
 | n + 1,v12,v13,v14,v15,v16,v17,v18,_,e0=>(bif (decide (v13 < (v14.length:Int))) then (inr v14 v13 (at_ v14 v13 fun x26=>(g.z14z x26 v15 v16 v17 v18 (fun r27 r28 r29 r30 r31=>(bif (!r27) then (inr v14 v12 (at_ v14 v12 fun x32=>z23z_L5 g n (w64 (v12 + 1)) (w64 (v13 + 1)) (set_ v14 v12 x26) r28 r29 r30 r31 e0)) else z23z_L5 g n v12 (w64 (v13 + 1)) v14 r28 r29 r30 r31 e0))))) else e0 v12 v14 v15 v16 v17 v18)
def z23z_ (g:C_z23z) (a1:List G_Spot) (a2:List G_Contact) (a3 a4:Int) (a5:List G_Band) {R:Type} (k0:List G_Spot→List G_Contact→Int→Int→List G_Band→Option R):Option R :=
 (g.z25z a1 a2 a3 a4 a5 (fun r6 r7 r8 r9 r10 r11=>(bif (r6 == (-1)) then k0 r7 r8 r9 r10 r11 else (z23z_L5 g g.N r6 (w64 (r6 + 1)) r7 r8 r9 r10 r11 (fun e33 e34 e35 e36 e37 e38=>(bif (decide (0 < e34.length) && (decide (0≤e33) && decide (e33≤(e34.length:Int)))) then (bif (decide (0≤e33) && (decide (e33≤(e34.length:Int)) && decide (((e34.length:Int)).toNat≤e34.length))) then (bif (decide (0≤e33) && decide (e33≤((e34.take (e33).toNat ++ (List.replicate ((e34.length:Int) - e33).toNat (⟨0,0,[],[]⟩:G_Spot) ++ e34.drop ((e34.length:Int)).toNat)).length:Int))) then k0 ((e34.take (e33).toNat ++ (List.replicate ((e34.length:Int) - e33).toNat (⟨0,0,[],[]⟩:G_Spot) ++ e34.drop ((e34.length:Int)).toNat)).take (e33:Int).toNat) e35 e36 e37 e38 else none) else none) else none))))))
noncomputable def yd6y [Fuel]:C_z23z:=⟨NN,@z14z _,@z25z _⟩
noncomputable def z23z [Fuel]:ywMy:=@z23z_ yd6y
def yoCy (g:ywMy):Spec A:=fun args=>match args with | [.arr 52 a1,.fn 64 [.box [.d (.sl 77 a2)],.box [.d (.int .i64 a3)],.box [.d (.int .i64 a4)],.box [.d (.sl 69 a5)]]]=>fun k=>g a1 a2 a3 a4 a5 (fun z0 z1 z2 z3 z4=>k (.arr 52 z0) [.undef,.fn 64 [.box [.d (.sl 77 z1)],.box [.d (.int .i64 z2)],.box [.d (.int .i64 z3)],.box [.d (.sl 69 z4)]]]) | _=>fun _=>none
def ylGy:SSt:=mkSh 42 9 [(0,.own 52 0),(1,.fn 64 [.ptr 1 0,.ptr 2 0,.ptr 3 0,.ptr 4 0]),(5,.int .i64),(6,.int .i64)] [(0,.row 52),(1,.box [.sl 77]),(2,.box [.int .i64]),(3,.box [.int .i64]),(4,.box [.sl 69])]
def yeUy (g:C_z23z) (n:Nat):LPT A:=fun ps=>match ps with | [.d (.int .i64 p1),.d (.int .i64 p2),.d (.sl 52 p3),.d (.sl 77 p4),.d (.int .i64 p5),.d (.int .i64 p6),.d (.sl 69 p7)]=>fun K=>z23z_L5 g n p1 p2 p3 p4 p5 p6 p7 (fun z0 z1 z2 z3 z4 z5=>K (.exit 0) (mkSt 42 9 [(0,.own 52 0),(1,.fn 64 [.ptr 1 0,.ptr 2 0,.ptr 3 0,.ptr 4 0]),(5,.d (.int .i64 z0))] [(0,some (.row 52 z1)),(1,some (.box [.d (.sl 77 z2)])),(2,some (.box [.d (.int .i64 z3)])),(3,some (.box [.d (.int .i64 z4)])),(4,some (.box [.d (.sl 69 z5)]))])) | _=>fun _=>none
noncomputable def youy:Code:=(Tryz.f63.body).getD .skip
noncomputable def ytFy (g:C_z23z):Env A:=mkE [(64,yksy g.z14z),(110,yoyy g.z25z)] [(7,[5]),(38,[6,7]),(41,[8])] [(5,⟨[0,1,5,6],[],[0,1,2,3,4],[],[],[],[]⟩)] [(5,⟨[0,1,5],[],[0,1,2,3,4],[],[],[],[]⟩)] [(5,yaey ylGy (yeUy g g.N))] [] [] [] [(110,0)] [1]
theorem yNJy [Fuel]:yagy (ytFy yd6y).C:=ct_of (P:=Tryz.prog) (T:=T) (.cons yoFy (.cons yBVy .nil)) (by kernel_rfl)
noncomputable def yrHy:Code:=sub [1,1,1,0,1,0,0] youy
theorem yGby (g:C_z23z) (n:Nat):yahy (ytFy g) g.N yrHy ylGy (yeUy g) n:=by intro ps; unfold yeUy; split; exact .inr fun R K=>(by kernel_rfl); exact .inl fun R K=>rfl
theorem yDWy [Fuel]:yacy (ytFy yd6y) NN yrHy:=yaby ylGy (yeUy yd6y) (by kernel_rfl) yNJy (cuts0 (fun _=>rfl) (by kernel_rfl)) (fun ps R K=>by unfold yeUy; split <;> (try unfold z23z_L5) <;> rfl) (yGby yd6y)
theorem yKOy (g:C_z23z):Same (yoCy (@z23z_ g)) (abody (ytFy g) Tryz.f63 youy 9 [0,1,2,3,4] [.arr 52] g.N):=by intro args; unfold yoCy; split; exact .inr fun R k=>(by kernel_rfl); exact .inl fun R k=>rfl
theorem yNmy [Fuel]:Ok 63 (yoCy (@z23z _)):=yaay std (.cons yoFy (.cons yBVy .nil)) ⟨rfl,rfl,by kernel_rfl,rfl,rfl,rfl⟩ (yKOy yd6y) (cutsL (fun _=>rfl) (.cons yDWy .nil) (by kernel_rfl)) Tryz.func63 (by kernel_rfl) (by kernel_rfl)
abbrev yiWy:Type 1:=Int→Int→{R:Type}→(Int→Option R)→Option R
def yzYy (g:Nat) (a1 a2:Int) {R:Type} (k0:Int→Option R):Option R :=
 k0 (if (w64 (a2 - a1)) > (w64 (a1 - a2)) then (w64 (a2 - a1)) else (w64 (a1 - a2)))
noncomputable def Q_apart [Fuel]:yiWy:=@yzYy NN
def yfmy (g:yiWy):Spec A:=fun args=>match args with | [.d (.int .i64 a1),.d (.int .i64 a2)]=>fun k=>g a1 a2 (fun z0=>k (.d (.int .i64 z0)) [.undef,.undef]) | _=>fun _=>none
noncomputable def yKIy:Code:=(Tryz.f71.body).getD .skip
noncomputable def yFry (g:Nat):Env A:=mkE [] [] [] [] [] [] [] [] [] []
theorem yEDy (g:Nat):Same (yfmy (@yzYy g)) (abody (yFry g) Tryz.f71 yKIy 0 [] [.asis] g):=by intro args; unfold yfmy; split; exact .inr fun R k=>(by kernel_rfl); exact .inl fun R k=>rfl
theorem ylWy [Fuel]:Ok 71 (yfmy (@Q_apart _)):=yaay std .nil ⟨rfl,rfl,by kernel_rfl,rfl,rfl,rfl⟩ (yEDy NN) (cuts0 (fun _=>rfl) (by kernel_rfl)) Tryz.func71 (by kernel_rfl) (by kernel_rfl)
abbrev yyFy:Type 1:=G_Spot→G_Spot→Int→{R:Type}→(Int→Int→Option R)→Option R
structure C_z17z where
 N:Nat
 Q_sign:ygiy
 Q_apart:yiWy
def z17z_ (g:C_z17z) (a1 a2:G_Spot) (a3:Int) {R:Type} (k0:Int→Int→Option R):Option R :=
 (g.Q_apart a1.f_Hertz a3 (fun r4=>(g.Q_apart a2.f_Hertz a3 (fun r5=>(g.Q_sign (w64 (r4 - r5)) (fun r6=>k0 r6 a3))))))
noncomputable def yxYy [Fuel]:C_z17z:=⟨NN,@Q_sign _,@Q_apart _⟩
noncomputable def z17z [Fuel]:yyFy:=@z17z_ yxYy
def yo6y (g:yyFy):Spec A:=fun args=>match args with | [.agg [.d (.int .i64 a1),.d (.int .i64 a2),.d (.str a3),.d (.str a4)],.agg [.d (.int .i64 a5),.d (.int .i64 a6),.d (.str a7),.d (.str a8)],.box [.d (.int .i64 a9)]]=>fun k=>g ⟨a1,a2,a3,a4⟩ ⟨a5,a6,a7,a8⟩ a9 (fun z0 z1=>k (.d (.int .i64 z0)) [.undef,.undef,.box [.d (.int .i64 z1)]]) | _=>fun _=>none
noncomputable def yOqy:Code:=(Tryz.f69.body).getD .skip
noncomputable def yP5y (g:C_z17z):Env A:=mkE [(70,ydHy g.Q_sign),(71,yfmy g.Q_apart)] [(3,[1]),(4,[2])] [] [] [] [] [] [] [] [2]
theorem yNjy (g:C_z17z):Same (yo6y (@z17z_ g)) (abody (yP5y g) Tryz.f69 yOqy 3 [0] [.asis] g.N):=by intro args; unfold yo6y; split; exact .inr fun R k=>(by kernel_rfl); exact .inl fun R k=>rfl
theorem yCEy [Fuel]:Ok 69 (yo6y (@z17z _)):=yaay std (.cons yi8y (.cons ylWy .nil)) ⟨rfl,rfl,by kernel_rfl,rfl,rfl,rfl⟩ (yNjy yxYy) (cuts0 (fun _=>rfl) (by kernel_rfl)) Tryz.func69 (by kernel_rfl) (by kernel_rfl)
abbrev T_z9z:Type 1:=List G_Spot→Int→Int→Int→{R:Type}→(List G_Spot→Int→Option R)→Option R
structure C_z9z where
 N:Nat
 z17z:yyFy
def z9z_L4 (g:C_z9z):Nat→Int→Int→Int→Int→List G_Spot→Int→{R:Type}→(Int→Int→Int→List G_Spot→Int→Option R)→Option R
 | 0,_,_,_,_,_,_,_,_=>none
 | n + 1,v37,v38,v39,v40,v41,v42,_,e0=>(bif (decide (v40 > v37)) then (inr v41 v40 (at_ v41 v40 fun x51=>(inr v41 (w64 (v40 - 1)) (at_ v41 (w64 (v40 - 1)) fun x52=>(g.z17z x51 x52 v42 (fun r53 r54=>(bif (decide (r53 < 0)) then (inr v41 (w64 (v40 - 1)) (at_ v41 (w64 (v40 - 1)) fun x55=>(inr v41 v40 (at_ v41 v40 fun x56=>(inr v41 v40 (at_ v41 v40 fun x57=>(inr (set_ v41 v40 x55) (w64 (v40 - 1)) (at_ (set_ v41 v40 x55) (w64 (v40 - 1)) fun x58=>z9z_L4 g n v37 v38 v39 (w64 (v40 - 1)) (set_ (set_ v41 v40 x55) (w64 (v40 - 1)) x56) r54 e0)))))))) else e0 v37 v38 v39 v41 r54))))))) else e0 v37 v38 v39 v41 v42)
def z9z_L1 (g:C_z9z):Nat→Int→Int→Int→List G_Spot→Int→{R:Type}→(List G_Spot→Int→Option R)→Option R
 | 0,_,_,_,_,_,_,_=>none
 | n + 1,v5,v6,v7,v8,v9,_,e0=>(bif (decide (v7 < v6)) then (z9z_L4 g g.N v5 v6 v7 v7 v8 v9 (fun e59 e60 e61 e62 e63=>z9z_L1 g n e59 e60 (w64 (e61 + 1)) e62 e63 e0)) else e0 v8 v9)
def z9z_ (g:C_z9z) (a1:List G_Spot) (a2 a3 a4:Int) {R:Type} (k0:List G_Spot→Int→Option R):Option R :=
 (z9z_L1 g g.N a2 a3 (w64 (a2 + 1)) a1 a4 (fun e64 e65=>k0 e64 e65))
noncomputable def I_z9z [Fuel]:C_z9z:=⟨NN,@z17z _⟩
noncomputable def z9z [Fuel]:T_z9z:=@z9z_ I_z9z
def yrCy (g:T_z9z):Spec A:=fun args=>match args with | [.arr 52 a1,.d (.int .i64 a2),.d (.int .i64 a3),.fn 69 [.box [.d (.int .i64 a4)]]]=>fun k=>g a1 a2 a3 a4 (fun z0 z1=>k (.tup []) [.arr 52 z0,.undef,.undef,.fn 69 [.box [.d (.int .i64 z1)]]]) | _=>fun _=>none
def ym5y:SSt:=mkSh 53 2 [(0,.own 52 0),(1,.int .i64),(2,.int .i64),(3,.fn 69 [.ptr 1 0]),(8,.int .i64),(9,.int .i64)] [(0,.row 52),(1,.box [.int .i64])]
def yhky (g:C_z9z) (n:Nat):LPT A:=fun ps=>match ps with | [.d (.int .i64 p1),.d (.int .i64 p2),.d (.int .i64 p3),.d (.int .i64 p4),.d (.sl 52 p5),.d (.int .i64 p6)]=>fun K=>z9z_L4 g n p1 p2 p3 p4 p5 p6 (fun z0 z1 z2 z3 z4=>K (.exit 2) (mkSt 53 2 [(0,.own 52 0),(1,.d (.int .i64 z0)),(2,.d (.int .i64 z1)),(3,.fn 69 [.ptr 1 0]),(8,.d (.int .i64 z2))] [(0,some (.row 52 z3)),(1,some (.box [.d (.int .i64 z4)]))])) | _=>fun _=>none
def yn9y:SSt:=mkSh 53 2 [(0,.own 52 0),(1,.int .i64),(2,.int .i64),(3,.fn 69 [.ptr 1 0]),(8,.int .i64)] [(0,.row 52),(1,.box [.int .i64])]
def yhpy (g:C_z9z) (n:Nat):LPT A:=fun ps=>match ps with | [.d (.int .i64 p1),.d (.int .i64 p2),.d (.int .i64 p3),.d (.sl 52 p4),.d (.int .i64 p5)]=>fun K=>z9z_L1 g n p1 p2 p3 p4 p5 (fun z0 z1=>K (.exit 0) (mkSt 53 2 [(0,.own 52 0),(3,.fn 69 [.ptr 1 0])] [(0,some (.row 52 z0)),(1,some (.box [.d (.int .i64 z1)]))])) | _=>fun _=>none
noncomputable def E_z9z (g:C_z9z):Env A:=mkE [(69,yo6y g.z17z)] [] [(4,⟨[0,1,2,3,8,9],[],[0,1],[],[],[],[]⟩),(1,⟨[0,1,2,3,8],[],[0,1],[],[],[],[]⟩)] [(4,⟨[0,1,2,3,8],[],[0,1],[],[],[],[]⟩),(1,⟨[0,3],[],[0,1],[],[],[],[]⟩)] [(4,yaey ym5y (yhky g g.N)),(1,yaey yn9y (yhpy g g.N))] [] [] [] [] [0,3]
theorem yE2y [Fuel]:yagy (E_z9z I_z9z).C:=ct_of (P:=Tryz.prog) (T:=T) (.cons yCEy .nil) (by kernel_rfl)
noncomputable def yvhy:Code:=sub [1,0,0,1,0,0,1,0,0] ybry
theorem yIIy (g:C_z9z) (n:Nat):yahy (E_z9z g) g.N yvhy ym5y (yhky g) n:=by intro ps; unfold yhky; split; exact .inr fun R K=>(by kernel_rfl); exact .inl fun R K=>rfl
theorem yvUy [Fuel]:yacy (E_z9z I_z9z) NN yvhy:=yaby ym5y (yhky I_z9z) (by kernel_rfl) yE2y (cuts0 (fun _=>rfl) (by kernel_rfl)) (fun ps R K=>by unfold yhky; split <;> (try unfold z9z_L4) <;> rfl) (yIIy I_z9z)
noncomputable def yvRy:Code:=sub [1,0,0] ybry
theorem yIUy (g:C_z9z) (n:Nat):yahy (E_z9z g) g.N yvRy yn9y (yhpy g) n:=by intro ps; unfold yhpy; split; exact .inr fun R K=>(by kernel_rfl); exact .inl fun R K=>rfl
theorem yGKy [Fuel]:yacy (E_z9z I_z9z) NN yvRy:=yaby yn9y (yhpy I_z9z) (by kernel_rfl) yE2y (cutsL (fun _=>rfl) (.cons yvUy .nil) (by kernel_rfl)) (fun ps R K=>by unfold yhpy; split <;> (try unfold z9z_L1) <;> rfl) (yIUy I_z9z)
theorem yPpy (g:C_z9z):Same (yrCy (@z9z_ g)) (abody (E_z9z g) Tryz.f128 ybry 2 [0,1] [] g.N):=by intro args; unfold yrCy; split; exact .inr fun R k=>(by kernel_rfl); exact .inl fun R k=>rfl
theorem yFly [Fuel]:Ok 128 (yrCy (@z9z _)):=yaay std (.cons yCEy .nil) ⟨rfl,rfl,by kernel_rfl,rfl,rfl,rfl⟩ (yPpy I_z9z) (cutsL (fun _=>rfl) (.cons yvUy (.cons yGKy .nil)) (by kernel_rfl)) Tryz.func128 (by kernel_rfl) (by kernel_rfl)
end Go.Am
