/- The functions of the program as Lean functions, each shown to be what the code computes, part 12. No condition: lemmas for the claim. -/
import Derived.Test.YtkcbebmbmffkjaaGreatDoorF0
import Derived.Test.YtkcbebmbmffkjaaGreatDoorFSh
import Derived.Test.YtkcbebmbmffkjaaGreatDoorF2
import Derived.Test.YtkcbebmbmffkjaaGreatDoorF10
import Derived.Test.YtkcbebmbmffkjaaGreatDoorF11
set_option linter.unusedVariables false
set_option maxRecDepth 100000
namespace Go.Am
open Go Go.Proofs
abbrev T_z7z:Type 1:=List G_Spot→Int→Int→{R:Type}→(List G_Spot→Int→Option R)→Option R
structure C_z7z where
 N:Nat
 z9z:T_z9z
def z7z_L2 (g:C_z7z):Nat→Int→Int→Int→Int→List G_Spot→Int→{R:Type}→(Int→Int→Int→List G_Spot→Int→Option R)→Option R
 | 0,_,_,_,_,_,_,_,_=>none
 | n + 1,v4,v5,v6,v7,v8,v9,_,e0=>(bif (decide (v7≤v4)) then (g.z9z v8 v6 v7 v9 (fun r12 r13=>z7z_L2 g n v4 v5 v7 (w64 (v7 + v5)) r12 r13 e0)) else e0 v4 v5 v6 v8 v9)
def z7z_L9 (g:C_z7z):Nat→Int→Int→Int→Int→List G_Spot→Int→{R:Type}→(Int→Int→Int→List G_Spot→Int→Option R)→Option R
 | 0,_,_,_,_,_,_,_,_=>none
 | n + 1,v36,v37,v38,v39,v40,v41,_,e0=>(bif (decide (v39≤v36)) then none else e0 v36 v37 v38 v40 v41)
def z7z_L7 (g:C_z7z):Nat→Int→Int→List G_Spot→Int→{R:Type}→(List G_Spot→Int→Option R)→Option R
 | 0,_,_,_,_,_,_=>none
 | n + 1,v21,v22,v23,v24,_,e0=>(bif (decide (v22 < v21)) then (z7z_L9 g g.N v21 v22 0 (w64 (2 * v22)) v23 v24 (fun e42 e43 e44 e45 e46=>(bif (decide ((w64 (e44 + e43)) < e42)) then none else z7z_L7 g n e42 (w64 (e43 * 2)) e45 e46 e0))) else e0 v23 v24)
def z7z_ (g:C_z7z) (a1:List G_Spot) (a2 a3:Int) {R:Type} (k0:List G_Spot→Int→Option R):Option R :=
 (z7z_L2 g g.N a2 20 0 20 a1 a3 (fun e14 e15 e16 e17 e18=>(g.z9z e17 e16 e14 e18 (fun r19 r20=>(z7z_L7 g g.N e14 e15 r19 r20 (fun e47 e48=>k0 e47 e48))))))
noncomputable def I_z7z [Fuel]:C_z7z:=⟨NN,@z9z _⟩
noncomputable def z7z [Fuel]:T_z7z:=@z7z_ I_z7z
def ysmy (g:T_z7z):Spec A:=fun args=>match args with | [.arr 52 a1,.d (.int .i64 a2),.fn 69 [.box [.d (.int .i64 a3)]]]=>fun k=>g a1 a2 a3 (fun z0 z1=>k (.tup []) [.arr 52 z0,.undef,.fn 69 [.box [.d (.int .i64 z1)]]]) | _=>fun _=>none
def ynby:SSt:=mkSh 63 2 [(0,.own 52 0),(1,.int .i64),(2,.fn 69 [.ptr 1 0]),(6,.int .i64),(7,.int .i64),(8,.int .i64)] [(0,.row 52),(1,.box [.int .i64])]
def yg6y (g:C_z7z) (n:Nat):LPT A:=fun ps=>match ps with | [.d (.int .i64 p1),.d (.int .i64 p2),.d (.int .i64 p3),.d (.int .i64 p4),.d (.sl 52 p5),.d (.int .i64 p6)]=>fun K=>z7z_L2 g n p1 p2 p3 p4 p5 p6 (fun z0 z1 z2 z3 z4=>K (.exit 0) (mkSt 63 2 [(0,.own 52 0),(1,.d (.int .i64 z0)),(2,.fn 69 [.ptr 1 0]),(6,.d (.int .i64 z1)),(7,.d (.int .i64 z2))] [(0,some (.row 52 z3)),(1,some (.box [.d (.int .i64 z4)]))])) | _=>fun _=>none
def yony:SSt:=mkSh 63 2 [(0,.own 52 0),(1,.int .i64),(2,.fn 69 [.ptr 1 0]),(6,.int .i64),(7,.int .i64),(8,.int .i64)] [(0,.row 52),(1,.box [.int .i64])]
def yhoy (g:C_z7z) (n:Nat):LPT A:=fun ps=>match ps with | [.d (.int .i64 p1),.d (.int .i64 p2),.d (.int .i64 p3),.d (.int .i64 p4),.d (.sl 52 p5),.d (.int .i64 p6)]=>fun K=>z7z_L9 g n p1 p2 p3 p4 p5 p6 (fun z0 z1 z2 z3 z4=>K (.exit 4) (mkSt 63 2 [(0,.own 52 0),(1,.d (.int .i64 z0)),(2,.fn 69 [.ptr 1 0]),(6,.d (.int .i64 z1)),(7,.d (.int .i64 z2))] [(0,some (.row 52 z3)),(1,some (.box [.d (.int .i64 z4)]))])) | _=>fun _=>none
def yofy:SSt:=mkSh 63 2 [(0,.own 52 0),(1,.int .i64),(2,.fn 69 [.ptr 1 0]),(6,.int .i64)] [(0,.row 52),(1,.box [.int .i64])]
def yhjy (g:C_z7z) (n:Nat):LPT A:=fun ps=>match ps with | [.d (.int .i64 p1),.d (.int .i64 p2),.d (.sl 52 p3),.d (.int .i64 p4)]=>fun K=>z7z_L7 g n p1 p2 p3 p4 (fun z0 z1=>K (.exit 2) (mkSt 63 2 [(0,.own 52 0),(2,.fn 69 [.ptr 1 0])] [(0,some (.row 52 z0)),(1,some (.box [.d (.int .i64 z1)]))])) | _=>fun _=>none
noncomputable def E_z7z (g:C_z7z):Env A:=mkE [(128,yrCy g.z9z)] [] [(2,⟨[0,1,2,6,7,8],[],[0,1],[],[],[],[]⟩),(9,⟨[0,1,2,6,7,8],[],[0,1],[],[],[],[]⟩),(7,⟨[0,1,2,6],[],[0,1],[],[],[],[]⟩)] [(2,⟨[0,1,2,6,7],[],[0,1],[],[],[],[]⟩),(9,⟨[0,1,2,6,7],[],[0,1],[],[],[],[]⟩),(7,⟨[0,2],[],[0,1],[],[],[],[]⟩)] [(2,yaey ynby (yg6y g g.N)),(9,yaey yony (yhoy g g.N)),(7,yaey yofy (yhjy g g.N))] [] [] [] [(128,0)] [0,2]
theorem yw1y [Fuel]:yagy (E_z7z I_z7z).C:=ct_of (P:=Tryz.prog) (T:=T) (.cons yFly .nil) (by kernel_rfl)
noncomputable def yvey:Code:=sub [1,1,0,0,0] ya8y
theorem yI0y (g:C_z7z) (n:Nat):yahy (E_z7z g) g.N yvey ynby (yg6y g) n:=by intro ps; unfold yg6y; split; exact .inr fun R K=>(by kernel_rfl); exact .inl fun R K=>rfl
theorem yF9y [Fuel]:yacy (E_z7z I_z7z) NN yvey:=yaby ynby (yg6y I_z7z) (by kernel_rfl) yw1y (cuts0 (fun _=>rfl) (by kernel_rfl)) (fun ps R K=>by unfold yg6y; split <;> (try unfold z7z_L2) <;> rfl) (yI0y I_z7z)
noncomputable def yvNy:Code:=sub [1,1,1,1,0,0,1,0,1,0,0,0] ya8y
theorem yI2y (g:C_z7z) (n:Nat):yahy (E_z7z g) g.N yvNy yony (yhoy g) n:=by intro ps; unfold yhoy; split; exact .inr fun R K=>(by kernel_rfl); exact .inl fun R K=>rfl
theorem yu1y [Fuel]:yacy (E_z7z I_z7z) NN yvNy:=yaby yony (yhoy I_z7z) (by kernel_rfl) yw1y (cuts0 (fun _=>rfl) (by kernel_rfl)) (fun ps R K=>by unfold yhoy; split <;> (try unfold z7z_L9) <;> rfl) (yI2y I_z7z)
noncomputable def yv2y:Code:=sub [1,1,1,1,0,0] ya8y
theorem yIny (g:C_z7z) (n:Nat):yahy (E_z7z g) g.N yv2y yofy (yhjy g) n:=by intro ps; unfold yhjy; split; exact .inr fun R K=>(by kernel_rfl); exact .inl fun R K=>rfl
theorem yFsy [Fuel]:yacy (E_z7z I_z7z) NN yv2y:=yaby yofy (yhjy I_z7z) (by kernel_rfl) yw1y (cutsL (fun _=>rfl) (.cons yu1y .nil) (by kernel_rfl)) (fun ps R K=>by unfold yhjy; split <;> (try unfold z7z_L7) <;> rfl) (yIny I_z7z)
theorem yOPy (g:C_z7z):Same (ysmy (@z7z_ g)) (abody (E_z7z g) Tryz.f89 ya8y 2 [0,1] [] g.N):=by intro args; unfold ysmy; split; exact .inr fun R k=>(by kernel_rfl); exact .inl fun R k=>rfl
theorem yPoy [Fuel]:Ok 89 (ysmy (@z7z _)):=yaay std (.cons yFly .nil) ⟨rfl,rfl,by kernel_rfl,rfl,rfl,rfl⟩ (yOPy I_z7z) (cutsL (fun _=>rfl) (.cons yF9y (.cons yu1y (.cons yFsy .nil))) (by kernel_rfl)) Tryz.func89 (by kernel_rfl) (by kernel_rfl)
abbrev yydy:Type 1:=List G_Spot→Int→{R:Type}→(List G_Spot→Int→Option R)→Option R
structure C_z50z where
 N:Nat
 z7z:T_z7z
def z50z_ (g:C_z50z) (a1:List G_Spot) (a2:Int) {R:Type} (k0:List G_Spot→Int→Option R):Option R :=
 (g.z7z a1 (a1.length:Int) a2 (fun r3 r4=>k0 r3 r4))
noncomputable def yy1y [Fuel]:C_z50z:=⟨NN,@z7z _⟩
noncomputable def z50z [Fuel]:yydy:=@z50z_ yy1y
def yosy (g:yydy):Spec A:=fun args=>match args with | [.arr 52 a1,.fn 69 [.box [.d (.int .i64 a2)]]]=>fun k=>g a1 a2 (fun z0 z1=>k (.tup []) [.arr 52 z0,.fn 69 [.box [.d (.int .i64 z1)]]]) | _=>fun _=>none
noncomputable def yPky (g:C_z50z):Env A:=mkE [(89,ysmy g.z7z)] [] [] [] [] [] [] [] [(89,0)] [0,1]
theorem yM5y (g:C_z50z):Same (yosy (@z50z_ g)) (abody (yPky g) Tryz.f39 yjQy 2 [0,1] [] g.N):=by intro args; unfold yosy; split; exact .inr fun R k=>(by kernel_rfl); exact .inl fun R k=>rfl
theorem yJ7y [Fuel]:Ok 39 (yosy (@z50z _)):=yaay std (.cons yPoy .nil) ⟨rfl,rfl,by kernel_rfl,rfl,rfl,rfl⟩ (yM5y yy1y) (cuts0 (fun _=>rfl) (by kernel_rfl)) Tryz.func39 (by kernel_rfl) (by kernel_rfl)
abbrev T_z1z:Type 1:=List G_Band→List G_Spot→List G_Contact→Int→Int→Int→Int→{R:Type}→(List G_Spot→Option R)→Option R
structure C_z1z where
 N:Nat
 z10z:ytJy
 z50z:yydy
 z23z:ywMy
def z1z_ (g:C_z1z) (a1:List G_Band) (a2:List G_Spot) (a3:List G_Contact) (a4 a5 a6 a7:Int) {R:Type} (k0:List G_Spot→Option R):Option R :=
 (g.z10z a1 a2 a5 a6 (fun r8=>(g.z23z r8 a3 a6 a4 a1 (fun r9 r10 r11 r12 r13=>(g.z50z r9 a7 (fun r14 r15=>k0 r14))))))
noncomputable def I_z1z [Fuel]:C_z1z:=⟨NN,@z10z _,@z50z _,@z23z _⟩
noncomputable def z1z [Fuel]:T_z1z:=@z1z_ I_z1z
def ytHy (g:T_z1z):Spec A:=fun args=>match args with | [.d (.sl 69 a1),.d (.sl 52 a2),.d (.sl 77 a3),.d (.int .i64 a4),.d (.int .i64 a5),.d (.int .i64 a6),.d (.int .i64 a7)]=>fun k=>g a1 a2 a3 a4 a5 a6 a7 (fun z0=>k (.arr 52 z0) [.undef,.undef,.undef,.undef,.undef,.undef,.undef]) | _=>fun _=>none
noncomputable def yLby:Code:=(Tryz.f20.body).getD .skip
noncomputable def E_z1z (g:C_z1z):Env A:=mkE [(29,yj9y g.z10z),(39,yosy g.z50z),(63,yoCy g.z23z)] [(7,[0]),(9,[1]),(10,[2]),(12,[3]),(13,[4]),(20,[5]),(22,[6])] [] [] [] [] [] [] [(39,0),(63,0)] []
theorem yPVy (g:C_z1z):Same (ytHy (@z1z_ g)) (abody (E_z1z g) Tryz.f20 yLby 7 [] [.arr 52] g.N):=by intro args; unfold ytHy; split; exact .inr fun R k=>(by kernel_rfl); exact .inl fun R k=>rfl
theorem yPNy [Fuel]:Ok 20 (ytHy (@z1z _)):=yaay std (.cons yB2y (.cons yJ7y (.cons yNmy .nil))) ⟨rfl,rfl,by kernel_rfl,rfl,rfl,rfl⟩ (yPVy I_z1z) (cuts0 (fun _=>rfl) (by kernel_rfl)) Tryz.func20 (by kernel_rfl) (by kernel_rfl)
abbrev ygFy:Type 1:=G_Spot→Int→Int→Int→{R:Type}→(Bool→Int→Int→Int→Option R)→Option R
structure C_Q_tuned_1 where
 N:Nat
 Q_sign:ygiy
def yl9y (g:C_Q_tuned_1) (a1:G_Spot) (a2 a3 a4:Int) {R:Type} (k0:Bool→Int→Int→Int→Option R):Option R :=
 (g.Q_sign (w64 (a1.f_Hertz - a2)) (fun r5=>(bif (r5 == (w64 (0 - a3))) then k0 true a2 a3 a4 else (bif (r5 == 0) then k0 (a3 != a4) a2 a3 a4 else k0 false a2 a3 a4))))
noncomputable def yjoy [Fuel]:C_Q_tuned_1:=⟨NN,@Q_sign _⟩
noncomputable def Q_tuned_1 [Fuel]:ygFy:=@yl9y yjoy
def ydFy (g:ygFy):Spec A:=fun args=>match args with | [.agg [.d (.int .i64 a1),.d (.int .i64 a2),.d (.str a3),.d (.str a4)],.box [.d (.int .i64 a5)],.box [.d (.int .i64 a6)],.box [.d (.int .i64 a7)]]=>fun k=>g ⟨a1,a2,a3,a4⟩ a5 a6 a7 (fun z0 z1 z2 z3=>k (.d (.bool z0)) [.undef,.box [.d (.int .i64 z1)],.box [.d (.int .i64 z2)],.box [.d (.int .i64 z3)]]) | _=>fun _=>none
noncomputable def yHcy:Code:=(Tryz.f112.body).getD .skip
noncomputable def yAzy (g:C_Q_tuned_1):Env A:=mkE [(70,ydHy g.Q_sign)] [(4,[3])] [] [] [] [] [] [] [] [1,2,3]
theorem yyuy (g:C_Q_tuned_1):Same (ydFy (@yl9y g)) (abody (yAzy g) Tryz.f112 yHcy 4 [0,1,2] [.asis] g.N):=by intro args; unfold ydFy; split; exact .inr fun R k=>(by kernel_rfl); exact .inl fun R k=>rfl
theorem yfVy [Fuel]:Ok 112 (ydFy (@Q_tuned_1 _)):=yaay std (.cons yi8y .nil) ⟨rfl,rfl,by kernel_rfl,rfl,rfl,rfl⟩ (yyuy yjoy) (cuts0 (fun _=>rfl) (by kernel_rfl)) Tryz.func112 (by kernel_rfl) (by kernel_rfl)
abbrev yyny:Type 1:=List G_Spot→Int→Int→Int→{R:Type}→(Int→List G_Spot→Int→Int→Int→Option R)→Option R
structure C_z31z where
 N:Nat
 Q_tuned_1:ygFy
def z31z_L2 (g:C_z31z):Nat→Int→Int→List G_Spot→Int→Int→Int→{R:Type}→(Int→List G_Spot→Int→Int→Int→Option R)→(List G_Spot→Int→Int→Int→Option R)→Option R
 | 0,_,_,_,_,_,_,_,_,_=>none
 | n + 1,v5,v6,v7,v8,v9,v10,_,e0,e1=>(bif (decide (v6 < v5)) then (inr v7 v6 (at_ v7 v6 fun x16=>(g.Q_tuned_1 x16 v8 v9 v10 (fun r17 r18 r19 r20=>(bif r17 then e0 v6 v7 r18 r19 r20 else z31z_L2 g n v5 (w64 (v6 + 1)) v7 r18 r19 r20 e0 e1))))) else e1 v7 v8 v9 v10)
def z31z_ (g:C_z31z) (a1:List G_Spot) (a2 a3 a4:Int) {R:Type} (k0:Int→List G_Spot→Int→Int→Int→Option R):Option R :=
 (z31z_L2 g g.N (a1.length:Int) 0 a1 a2 a3 a4 (fun e21 e22 e23 e24 e25=>k0 e21 e22 e23 e24 e25) (fun e26 e27 e28 e29=>k0 (-1) e26 e27 e28 e29))
noncomputable def yfRy [Fuel]:C_z31z:=⟨NN,@Q_tuned_1 _⟩
noncomputable def z31z [Fuel]:yyny:=@z31z_ yfRy
def ypny (g:yyny):Spec A:=fun args=>match args with | [.arr 52 a1,.fn 112 [.box [.d (.int .i64 a2)],.box [.d (.int .i64 a3)],.box [.d (.int .i64 a4)]]]=>fun k=>g a1 a2 a3 a4 (fun z0 z1 z2 z3 z4=>k (.d (.int .i64 z0)) [.arr 52 z1,.fn 112 [.box [.d (.int .i64 z2)],.box [.d (.int .i64 z3)],.box [.d (.int .i64 z4)]]]) | _=>fun _=>none
def ymsy:SSt:=mkSh 19 4 [(0,.own 52 0),(1,.fn 112 [.ptr 1 0,.ptr 2 0,.ptr 3 0]),(7,.int .i64),(8,.int .i64)] [(0,.row 52),(1,.box [.int .i64]),(2,.box [.int .i64]),(3,.box [.int .i64])]
def yfxy (g:C_z31z) (n:Nat):LPT A:=fun ps=>match ps with | [.d (.int .i64 p1),.d (.int .i64 p2),.d (.sl 52 p3),.d (.int .i64 p4),.d (.int .i64 p5),.d (.int .i64 p6)]=>fun K=>z31z_L2 g n p1 p2 p3 p4 p5 p6 (fun z0 z1 z2 z3 z4=>K .ret (mkSt 19 4 [(0,.own 52 0),(1,.fn 112 [.ptr 1 0,.ptr 2 0,.ptr 3 0]),(4,.d (.int .i64 z0))] [(0,some (.row 52 z1)),(1,some (.box [.d (.int .i64 z2)])),(2,some (.box [.d (.int .i64 z3)])),(3,some (.box [.d (.int .i64 z4)]))])) (fun z0 z1 z2 z3=>K (.exit 0) (mkSt 19 4 [(0,.own 52 0),(1,.fn 112 [.ptr 1 0,.ptr 2 0,.ptr 3 0])] [(0,some (.row 52 z0)),(1,some (.box [.d (.int .i64 z1)])),(2,some (.box [.d (.int .i64 z2)])),(3,some (.box [.d (.int .i64 z3)]))])) | _=>fun _=>none
noncomputable def ytAy (g:C_z31z):Env A:=mkE [(112,ydFy g.Q_tuned_1)] [] [(2,⟨[0,1,7,8],[],[0,1,2,3],[],[],[],[]⟩)] [(2,⟨[0,1,4],[],[0,1,2,3],[],[],[],[]⟩)] [(2,yaey ymsy (yfxy g g.N))] [] [] [] [] [0,1]
theorem yMAy [Fuel]:yagy (ytAy yfRy).C:=ct_of (P:=Tryz.prog) (T:=T) (.cons yfVy .nil) (by kernel_rfl)
noncomputable def ys9y:Code:=sub [1,0,1,0,0] ygyy
theorem yGoy (g:C_z31z) (n:Nat):yahy (ytAy g) g.N ys9y ymsy (yfxy g) n:=by intro ps; unfold yfxy; split; exact .inr fun R K=>(by kernel_rfl); exact .inl fun R K=>rfl
theorem yDOy [Fuel]:yacy (ytAy yfRy) NN ys9y:=yaby ymsy (yfxy yfRy) (by kernel_rfl) yMAy (cuts0 (fun _=>rfl) (by kernel_rfl)) (fun ps R K=>by unfold yfxy; split <;> (try unfold z31z_L2) <;> rfl) (yGoy yfRy)
theorem yKry (g:C_z31z):Same (ypny (@z31z_ g)) (abody (ytAy g) Tryz.f110 ygyy 4 [0,1,2,3] [.asis] g.N):=by intro args; unfold ypny; split; exact .inr fun R k=>(by kernel_rfl); exact .inl fun R k=>rfl
theorem yBny [Fuel]:Ok 110 (ypny (@z31z _)):=yaay std (.cons yfVy .nil) ⟨rfl,rfl,by kernel_rfl,rfl,rfl,rfl⟩ (yKry yfRy) (cutsL (fun _=>rfl) (.cons yDOy .nil) (by kernel_rfl)) Tryz.func110 (by kernel_rfl) (by kernel_rfl)
abbrev yyay:Type 1:=List G_Spot→Int→Int→Int→{R:Type}→(List G_Spot→Int→Int→Int→Option R)→Option R
structure C_z27z where
 N:Nat
 z31z:yyny
 Q_tuned_1:ygFy
def z27z_L5 (g:C_z27z):Nat→Int→Int→List G_Spot→Int→Int→Int→{R:Type}→(Int→List G_Spot→Int→Int→Int→Option R)→Option R
 | 0,_,_,_,_,_,_,_,_=>none
 | n + 1,v10,v11,v12,v13,v14,v15,_,e0=>(bif (decide (v11 < (v12.length:Int))) then (inr v12 v11 (at_ v12 v11 fun x22=>(g.Q_tuned_1 x22 v13 v14 v15 (fun r23 r24 r25 r26=>(bif (!r23) then (inr v12 v10 (at_ v12 v10 fun x27=>z27z_L5 g n (w64 (v10 + 1)) (w64 (v11 + 1)) (set_ v12 v10 x22) r24 r25 r26 e0)) else z27z_L5 g n v10 (w64 (v11 + 1)) v12 r24 r25 r26 e0))))) else e0 v10 v12 v13 v14 v15)
def z27z_ (g:C_z27z) (a1:List G_Spot) (a2 a3 a4:Int) {R:Type} (k0:List G_Spot→Int→Int→Int→Option R):Option R :=
 (g.z31z a1 a2 a3 a4 (fun r5 r6 r7 r8 r9=>(bif (r5 == (-1)) then k0 r6 r7 r8 r9 else (z27z_L5 g g.N r5 (w64 (r5 + 1)) r6 r7 r8 r9 (fun e28 e29 e30 e31 e32=>(bif (decide (0 < e29.length) && (decide (0≤e28) && decide (e28≤(e29.length:Int)))) then (bif (decide (0≤e28) && (decide (e28≤(e29.length:Int)) && decide (((e29.length:Int)).toNat≤e29.length))) then (bif (decide (0≤e28) && decide (e28≤((e29.take (e28).toNat ++ (List.replicate ((e29.length:Int) - e28).toNat (⟨0,0,[],[]⟩:G_Spot) ++ e29.drop ((e29.length:Int)).toNat)).length:Int))) then k0 ((e29.take (e28).toNat ++ (List.replicate ((e29.length:Int) - e28).toNat (⟨0,0,[],[]⟩:G_Spot) ++ e29.drop ((e29.length:Int)).toNat)).take (e28:Int).toNat) e30 e31 e32 else none) else none) else none))))))
noncomputable def yd3y [Fuel]:C_z27z:=⟨NN,@z31z _,@Q_tuned_1 _⟩
noncomputable def z27z [Fuel]:yyay:=@z27z_ yd3y
def yoZy (g:yyay):Spec A:=fun args=>match args with | [.arr 52 a1,.fn 112 [.box [.d (.int .i64 a2)],.box [.d (.int .i64 a3)],.box [.d (.int .i64 a4)]]]=>fun k=>g a1 a2 a3 a4 (fun z0 z1 z2 z3=>k (.arr 52 z0) [.undef,.fn 112 [.box [.d (.int .i64 z1)],.box [.d (.int .i64 z2)],.box [.d (.int .i64 z3)]]]) | _=>fun _=>none
def ymhy:SSt:=mkSh 42 8 [(0,.own 52 0),(1,.fn 112 [.ptr 1 0,.ptr 2 0,.ptr 3 0]),(5,.int .i64),(6,.int .i64)] [(0,.row 52),(1,.box [.int .i64]),(2,.box [.int .i64]),(3,.box [.int .i64])]
def ye7y (g:C_z27z) (n:Nat):LPT A:=fun ps=>match ps with | [.d (.int .i64 p1),.d (.int .i64 p2),.d (.sl 52 p3),.d (.int .i64 p4),.d (.int .i64 p5),.d (.int .i64 p6)]=>fun K=>z27z_L5 g n p1 p2 p3 p4 p5 p6 (fun z0 z1 z2 z3 z4=>K (.exit 0) (mkSt 42 8 [(0,.own 52 0),(1,.fn 112 [.ptr 1 0,.ptr 2 0,.ptr 3 0]),(5,.d (.int .i64 z0))] [(0,some (.row 52 z1)),(1,some (.box [.d (.int .i64 z2)])),(2,some (.box [.d (.int .i64 z3)])),(3,some (.box [.d (.int .i64 z4)]))])) | _=>fun _=>none
noncomputable def yrpy (g:C_z27z):Env A:=mkE [(110,ypny g.z31z),(112,ydFy g.Q_tuned_1)] [(7,[4]),(38,[5,6]),(41,[7])] [(5,⟨[0,1,5,6],[],[0,1,2,3],[],[],[],[]⟩)] [(5,⟨[0,1,5],[],[0,1,2,3],[],[],[],[]⟩)] [(5,yaey ymhy (ye7y g g.N))] [] [] [] [(110,0)] [1]
theorem yMpy [Fuel]:yagy (yrpy yd3y).C:=ct_of (P:=Tryz.prog) (T:=T) (.cons yBny (.cons yfVy .nil)) (by kernel_rfl)
noncomputable def ysty:Code:=sub [1,1,1,0,1,0,0] youy
theorem yFGy (g:C_z27z) (n:Nat):yahy (yrpy g) g.N ysty ymhy (ye7y g) n:=by intro ps; unfold ye7y; split; exact .inr fun R K=>(by kernel_rfl); exact .inl fun R K=>rfl
theorem yEdy [Fuel]:yacy (yrpy yd3y) NN ysty:=yaby ymhy (ye7y yd3y) (by kernel_rfl) yMpy (cuts0 (fun _=>rfl) (by kernel_rfl)) (fun ps R K=>by unfold ye7y; split <;> (try unfold z27z_L5) <;> rfl) (yFGy yd3y)
theorem yNvy (g:C_z27z):Same (yoZy (@z27z_ g)) (abody (yrpy g) Tryz.f63 youy 8 [0,1,2,3] [.arr 52] g.N):=by intro args; unfold yoZy; split; exact .inr fun R k=>(by kernel_rfl); exact .inl fun R k=>rfl
theorem yC1y [Fuel]:Ok 63 (yoZy (@z27z _)):=yaay std (.cons yBny (.cons yfVy .nil)) ⟨rfl,rfl,by kernel_rfl,rfl,rfl,rfl⟩ (yNvy yd3y) (cutsL (fun _=>rfl) (.cons yEdy .nil) (by kernel_rfl)) Tryz.func63 (by kernel_rfl) (by kernel_rfl)
abbrev yjry:Type 1:=G_Spot→G_Spot→Int→{R:Type}→(Int→Int→Option R)→Option R
structure C_Q_tuned_2 where
 N:Nat
 Q_sign:ygiy
def ylIy (g:C_Q_tuned_2) (a1 a2:G_Spot) (a3:Int) {R:Type} (k0:Int→Int→Option R):Option R :=
 (g.Q_sign (w64 (a1.f_Hertz - a2.f_Hertz)) (fun r4=>k0 (w64 (a3 * r4)) a3))
noncomputable def yjjy [Fuel]:C_Q_tuned_2:=⟨NN,@Q_sign _⟩
noncomputable def Q_tuned_2 [Fuel]:yjry:=@ylIy yjjy
def yfuy (g:yjry):Spec A:=fun args=>match args with | [.agg [.d (.int .i64 a1),.d (.int .i64 a2),.d (.str a3),.d (.str a4)],.agg [.d (.int .i64 a5),.d (.int .i64 a6),.d (.str a7),.d (.str a8)],.box [.d (.int .i64 a9)]]=>fun k=>g ⟨a1,a2,a3,a4⟩ ⟨a5,a6,a7,a8⟩ a9 (fun z0 z1=>k (.d (.int .i64 z0)) [.undef,.undef,.box [.d (.int .i64 z1)]]) | _=>fun _=>none
noncomputable def yIZy:Code:=(Tryz.f113.body).getD .skip
noncomputable def yALy (g:C_Q_tuned_2):Env A:=mkE [(70,ydHy g.Q_sign)] [(3,[1]),(4,[2])] [] [] [] [] [] [] [] [2]
theorem yyyy (g:C_Q_tuned_2):Same (yfuy (@ylIy g)) (abody (yALy g) Tryz.f113 yIZy 3 [0] [.asis] g.N):=by intro args; unfold yfuy; split; exact .inr fun R k=>(by kernel_rfl); exact .inl fun R k=>rfl
theorem yogy [Fuel]:Ok 113 (yfuy (@Q_tuned_2 _)):=yaay std (.cons yi8y .nil) ⟨rfl,rfl,by kernel_rfl,rfl,rfl,rfl⟩ (yyyy yjjy) (cuts0 (fun _=>rfl) (by kernel_rfl)) Tryz.func113 (by kernel_rfl) (by kernel_rfl)
abbrev yyOy:Type 1:=List G_Spot→Int→Int→Int→{R:Type}→(List G_Spot→Int→Option R)→Option R
structure C_z16z where
 N:Nat
 Q_tuned_2:yjry
def z16z_L4 (g:C_z16z):Nat→Int→Int→Int→Int→List G_Spot→Int→{R:Type}→(Int→Int→Int→List G_Spot→Int→Option R)→Option R
 | 0,_,_,_,_,_,_,_,_=>none
 | n + 1,v37,v38,v39,v40,v41,v42,_,e0=>(bif (decide (v40 > v37)) then (inr v41 v40 (at_ v41 v40 fun x51=>(inr v41 (w64 (v40 - 1)) (at_ v41 (w64 (v40 - 1)) fun x52=>(g.Q_tuned_2 x51 x52 v42 (fun r53 r54=>(bif (decide (r53 < 0)) then (inr v41 (w64 (v40 - 1)) (at_ v41 (w64 (v40 - 1)) fun x55=>(inr v41 v40 (at_ v41 v40 fun x56=>(inr v41 v40 (at_ v41 v40 fun x57=>(inr (set_ v41 v40 x55) (w64 (v40 - 1)) (at_ (set_ v41 v40 x55) (w64 (v40 - 1)) fun x58=>z16z_L4 g n v37 v38 v39 (w64 (v40 - 1)) (set_ (set_ v41 v40 x55) (w64 (v40 - 1)) x56) r54 e0)))))))) else e0 v37 v38 v39 v41 r54))))))) else e0 v37 v38 v39 v41 v42)
def z16z_L1 (g:C_z16z):Nat→Int→Int→Int→List G_Spot→Int→{R:Type}→(List G_Spot→Int→Option R)→Option R
 | 0,_,_,_,_,_,_,_=>none
 | n + 1,v5,v6,v7,v8,v9,_,e0=>(bif (decide (v7 < v6)) then (z16z_L4 g g.N v5 v6 v7 v7 v8 v9 (fun e59 e60 e61 e62 e63=>z16z_L1 g n e59 e60 (w64 (e61 + 1)) e62 e63 e0)) else e0 v8 v9)
def z16z_ (g:C_z16z) (a1:List G_Spot) (a2 a3 a4:Int) {R:Type} (k0:List G_Spot→Int→Option R):Option R :=
 (z16z_L1 g g.N a2 a3 (w64 (a2 + 1)) a1 a4 (fun e64 e65=>k0 e64 e65))
noncomputable def yd8y [Fuel]:C_z16z:=⟨NN,@Q_tuned_2 _⟩
noncomputable def z16z [Fuel]:yyOy:=@z16z_ yd8y
def yoKy (g:yyOy):Spec A:=fun args=>match args with | [.arr 52 a1,.d (.int .i64 a2),.d (.int .i64 a3),.fn 113 [.box [.d (.int .i64 a4)]]]=>fun k=>g a1 a2 a3 a4 (fun z0 z1=>k (.tup []) [.arr 52 z0,.undef,.undef,.fn 113 [.box [.d (.int .i64 z1)]]]) | _=>fun _=>none
def ylMy:SSt:=mkSh 53 2 [(0,.own 52 0),(1,.int .i64),(2,.int .i64),(3,.fn 113 [.ptr 1 0]),(8,.int .i64),(9,.int .i64)] [(0,.row 52),(1,.box [.int .i64])]
def yeKy (g:C_z16z) (n:Nat):LPT A:=fun ps=>match ps with | [.d (.int .i64 p1),.d (.int .i64 p2),.d (.int .i64 p3),.d (.int .i64 p4),.d (.sl 52 p5),.d (.int .i64 p6)]=>fun K=>z16z_L4 g n p1 p2 p3 p4 p5 p6 (fun z0 z1 z2 z3 z4=>K (.exit 2) (mkSt 53 2 [(0,.own 52 0),(1,.d (.int .i64 z0)),(2,.d (.int .i64 z1)),(3,.fn 113 [.ptr 1 0]),(8,.d (.int .i64 z2))] [(0,some (.row 52 z3)),(1,some (.box [.d (.int .i64 z4)]))])) | _=>fun _=>none
def ymjy:SSt:=mkSh 53 2 [(0,.own 52 0),(1,.int .i64),(2,.int .i64),(3,.fn 113 [.ptr 1 0]),(8,.int .i64)] [(0,.row 52),(1,.box [.int .i64])]
def yfKy (g:C_z16z) (n:Nat):LPT A:=fun ps=>match ps with | [.d (.int .i64 p1),.d (.int .i64 p2),.d (.int .i64 p3),.d (.sl 52 p4),.d (.int .i64 p5)]=>fun K=>z16z_L1 g n p1 p2 p3 p4 p5 (fun z0 z1=>K (.exit 0) (mkSt 53 2 [(0,.own 52 0),(3,.fn 113 [.ptr 1 0])] [(0,some (.row 52 z0)),(1,some (.box [.d (.int .i64 z1)]))])) | _=>fun _=>none
noncomputable def yjRy (g:C_z16z):Env A:=mkE [(113,yfuy g.Q_tuned_2)] [] [(4,⟨[0,1,2,3,8,9],[],[0,1],[],[],[],[]⟩),(1,⟨[0,1,2,3,8],[],[0,1],[],[],[],[]⟩)] [(4,⟨[0,1,2,3,8],[],[0,1],[],[],[],[]⟩),(1,⟨[0,3],[],[0,1],[],[],[],[]⟩)] [(4,yaey ylMy (yeKy g g.N)),(1,yaey ymjy (yfKy g g.N))] [] [] [] [] [0,3]
theorem yBxy [Fuel]:yagy (yjRy yd8y).C:=ct_of (P:=Tryz.prog) (T:=T) (.cons yogy .nil) (by kernel_rfl)
noncomputable def ysvy:Code:=sub [1,0,0,1,0,0,1,0,0] ybry
theorem yEZy (g:C_z16z) (n:Nat):yahy (yjRy g) g.N ysvy ylMy (yeKy g) n:=by intro ps; unfold yeKy; split; exact .inr fun R K=>(by kernel_rfl); exact .inl fun R K=>rfl
theorem ytKy [Fuel]:yacy (yjRy yd8y) NN ysvy:=yaby ylMy (yeKy yd8y) (by kernel_rfl) yBxy (cuts0 (fun _=>rfl) (by kernel_rfl)) (fun ps R K=>by unfold yeKy; split <;> (try unfold z16z_L4) <;> rfl) (yEZy yd8y)
noncomputable def ytry:Code:=sub [1,0,0] ybry
theorem yE0y (g:C_z16z) (n:Nat):yahy (yjRy g) g.N ytry ymjy (yfKy g) n:=by intro ps; unfold yfKy; split; exact .inr fun R K=>(by kernel_rfl); exact .inl fun R K=>rfl
theorem yD8y [Fuel]:yacy (yjRy yd8y) NN ytry:=yaby ymjy (yfKy yd8y) (by kernel_rfl) yBxy (cutsL (fun _=>rfl) (.cons ytKy .nil) (by kernel_rfl)) (fun ps R K=>by unfold yfKy; split <;> (try unfold z16z_L1) <;> rfl) (yE0y yd8y)
theorem yLEy (g:C_z16z):Same (yoKy (@z16z_ g)) (abody (yjRy g) Tryz.f128 ybry 2 [0,1] [] g.N):=by intro args; unfold yoKy; split; exact .inr fun R k=>(by kernel_rfl); exact .inl fun R k=>rfl
theorem yCoy [Fuel]:Ok 128 (yoKy (@z16z _)):=yaay std (.cons yogy .nil) ⟨rfl,rfl,by kernel_rfl,rfl,rfl,rfl⟩ (yLEy yd8y) (cutsL (fun _=>rfl) (.cons ytKy (.cons yD8y .nil)) (by kernel_rfl)) Tryz.func128 (by kernel_rfl) (by kernel_rfl)
end Go.Am
