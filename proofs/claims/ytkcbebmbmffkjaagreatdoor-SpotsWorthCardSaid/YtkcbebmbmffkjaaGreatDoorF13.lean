/- The functions of the program as Lean functions, each shown to be what the code computes, part 13. No condition: lemmas for the claim. -/
import Derived.Test.YtkcbebmbmffkjaaGreatDoorF0
import Derived.Test.YtkcbebmbmffkjaaGreatDoorFSh
import Derived.Test.YtkcbebmbmffkjaaGreatDoorF1
import Derived.Test.YtkcbebmbmffkjaaGreatDoorF2
import Derived.Test.YtkcbebmbmffkjaaGreatDoorF4
import Derived.Test.YtkcbebmbmffkjaaGreatDoorF5
import Derived.Test.YtkcbebmbmffkjaaGreatDoorF7
import Derived.Test.YtkcbebmbmffkjaaGreatDoorF10
import Derived.Test.YtkcbebmbmffkjaaGreatDoorF11
import Derived.Test.YtkcbebmbmffkjaaGreatDoorF12
set_option linter.unusedVariables false
set_option maxRecDepth 100000
namespace Go.Am
open Go Go.Proofs
abbrev yyoy:Type 1:=List G_Spot→Int→Int→{R:Type}→(List G_Spot→Int→Option R)→Option R
structure C_z15z where
 N:Nat
 z16z:yyOy
def z15z_L2 (g:C_z15z):Nat→Int→Int→Int→Int→List G_Spot→Int→{R:Type}→(Int→Int→Int→List G_Spot→Int→Option R)→Option R
 | 0,_,_,_,_,_,_,_,_=>none
 | n + 1,v4,v5,v6,v7,v8,v9,_,e0=>(bif (decide (v7≤v4)) then (g.z16z v8 v6 v7 v9 (fun r12 r13=>z15z_L2 g n v4 v5 v7 (w64 (v7 + v5)) r12 r13 e0)) else e0 v4 v5 v6 v8 v9)
def z15z_L9 (g:C_z15z):Nat→Int→Int→Int→Int→List G_Spot→Int→{R:Type}→(Int→Int→Int→List G_Spot→Int→Option R)→Option R
 | 0,_,_,_,_,_,_,_,_=>none
 | n + 1,v36,v37,v38,v39,v40,v41,_,e0=>(bif (decide (v39≤v36)) then none else e0 v36 v37 v38 v40 v41)
def z15z_L7 (g:C_z15z):Nat→Int→Int→List G_Spot→Int→{R:Type}→(List G_Spot→Int→Option R)→Option R
 | 0,_,_,_,_,_,_=>none
 | n + 1,v21,v22,v23,v24,_,e0=>(bif (decide (v22 < v21)) then (z15z_L9 g g.N v21 v22 0 (w64 (2 * v22)) v23 v24 (fun e42 e43 e44 e45 e46=>(bif (decide ((w64 (e44 + e43)) < e42)) then none else z15z_L7 g n e42 (w64 (e43 * 2)) e45 e46 e0))) else e0 v23 v24)
def z15z_ (g:C_z15z) (a1:List G_Spot) (a2 a3:Int) {R:Type} (k0:List G_Spot→Int→Option R):Option R :=
 (z15z_L2 g g.N a2 20 0 20 a1 a3 (fun e14 e15 e16 e17 e18=>(g.z16z e17 e16 e14 e18 (fun r19 r20=>(z15z_L7 g g.N e14 e15 r19 r20 (fun e47 e48=>k0 e47 e48))))))
noncomputable def ycRy [Fuel]:C_z15z:=⟨NN,@z16z _⟩
noncomputable def z15z [Fuel]:yyoy:=@z15z_ ycRy
def ypMy (g:yyoy):Spec A:=fun args=>match args with | [.arr 52 a1,.d (.int .i64 a2),.fn 113 [.box [.d (.int .i64 a3)]]]=>fun k=>g a1 a2 a3 (fun z0 z1=>k (.tup []) [.arr 52 z0,.undef,.fn 113 [.box [.d (.int .i64 z1)]]]) | _=>fun _=>none
def ykMy:SSt:=mkSh 63 2 [(0,.own 52 0),(1,.int .i64),(2,.fn 113 [.ptr 1 0]),(6,.int .i64),(7,.int .i64),(8,.int .i64)] [(0,.row 52),(1,.box [.int .i64])]
def yf3y (g:C_z15z) (n:Nat):LPT A:=fun ps=>match ps with | [.d (.int .i64 p1),.d (.int .i64 p2),.d (.int .i64 p3),.d (.int .i64 p4),.d (.sl 52 p5),.d (.int .i64 p6)]=>fun K=>z15z_L2 g n p1 p2 p3 p4 p5 p6 (fun z0 z1 z2 z3 z4=>K (.exit 0) (mkSt 63 2 [(0,.own 52 0),(1,.d (.int .i64 z0)),(2,.fn 113 [.ptr 1 0]),(6,.d (.int .i64 z1)),(7,.d (.int .i64 z2))] [(0,some (.row 52 z3)),(1,some (.box [.d (.int .i64 z4)]))])) | _=>fun _=>none
def ymmy:SSt:=mkSh 63 2 [(0,.own 52 0),(1,.int .i64),(2,.fn 113 [.ptr 1 0]),(6,.int .i64),(7,.int .i64),(8,.int .i64)] [(0,.row 52),(1,.box [.int .i64])]
def yfNy (g:C_z15z) (n:Nat):LPT A:=fun ps=>match ps with | [.d (.int .i64 p1),.d (.int .i64 p2),.d (.int .i64 p3),.d (.int .i64 p4),.d (.sl 52 p5),.d (.int .i64 p6)]=>fun K=>z15z_L9 g n p1 p2 p3 p4 p5 p6 (fun z0 z1 z2 z3 z4=>K (.exit 4) (mkSt 63 2 [(0,.own 52 0),(1,.d (.int .i64 z0)),(2,.fn 113 [.ptr 1 0]),(6,.d (.int .i64 z1)),(7,.d (.int .i64 z2))] [(0,some (.row 52 z3)),(1,some (.box [.d (.int .i64 z4)]))])) | _=>fun _=>none
def ykYy:SSt:=mkSh 63 2 [(0,.own 52 0),(1,.int .i64),(2,.fn 113 [.ptr 1 0]),(6,.int .i64)] [(0,.row 52),(1,.box [.int .i64])]
def yfny (g:C_z15z) (n:Nat):LPT A:=fun ps=>match ps with | [.d (.int .i64 p1),.d (.int .i64 p2),.d (.sl 52 p3),.d (.int .i64 p4)]=>fun K=>z15z_L7 g n p1 p2 p3 p4 (fun z0 z1=>K (.exit 2) (mkSt 63 2 [(0,.own 52 0),(2,.fn 113 [.ptr 1 0])] [(0,some (.row 52 z0)),(1,some (.box [.d (.int .i64 z1)]))])) | _=>fun _=>none
noncomputable def yhty (g:C_z15z):Env A:=mkE [(128,yoKy g.z16z)] [] [(2,⟨[0,1,2,6,7,8],[],[0,1],[],[],[],[]⟩),(9,⟨[0,1,2,6,7,8],[],[0,1],[],[],[],[]⟩),(7,⟨[0,1,2,6],[],[0,1],[],[],[],[]⟩)] [(2,⟨[0,1,2,6,7],[],[0,1],[],[],[],[]⟩),(9,⟨[0,1,2,6,7],[],[0,1],[],[],[],[]⟩),(7,⟨[0,2],[],[0,1],[],[],[],[]⟩)] [(2,yaey ykMy (yf3y g g.N)),(9,yaey ymmy (yfNy g g.N)),(7,yaey ykYy (yfny g g.N))] [] [] [] [(128,0)] [0,2]
theorem ytSy [Fuel]:yagy (yhty ycRy).C:=ct_of (P:=Tryz.prog) (T:=T) (.cons yCoy .nil) (by kernel_rfl)
noncomputable def ys8y:Code:=sub [1,1,0,0,0] ya8y
theorem yEJy (g:C_z15z) (n:Nat):yahy (yhty g) g.N ys8y ykMy (yf3y g) n:=by intro ps; unfold yf3y; split; exact .inr fun R K=>(by kernel_rfl); exact .inl fun R K=>rfl
theorem yEwy [Fuel]:yacy (yhty ycRy) NN ys8y:=yaby ykMy (yf3y ycRy) (by kernel_rfl) ytSy (cuts0 (fun _=>rfl) (by kernel_rfl)) (fun ps R K=>by unfold yf3y; split <;> (try unfold z15z_L2) <;> rfl) (yEJy ycRy)
noncomputable def ytBy:Code:=sub [1,1,1,1,0,0,1,0,1,0,0,0] ya8y
theorem yGXy (g:C_z15z) (n:Nat):yahy (yhty g) g.N ytBy ymmy (yfNy g) n:=by intro ps; unfold yfNy; split; exact .inr fun R K=>(by kernel_rfl); exact .inl fun R K=>rfl
theorem ytey [Fuel]:yacy (yhty ycRy) NN ytBy:=yaby ymmy (yfNy ycRy) (by kernel_rfl) ytSy (cuts0 (fun _=>rfl) (by kernel_rfl)) (fun ps R K=>by unfold yfNy; split <;> (try unfold z15z_L9) <;> rfl) (yGXy ycRy)
noncomputable def yrMy:Code:=sub [1,1,1,1,0,0] ya8y
theorem yGDy (g:C_z15z) (n:Nat):yahy (yhty g) g.N yrMy ykYy (yfny g) n:=by intro ps; unfold yfny; split; exact .inr fun R K=>(by kernel_rfl); exact .inl fun R K=>rfl
theorem yDYy [Fuel]:yacy (yhty ycRy) NN yrMy:=yaby ykYy (yfny ycRy) (by kernel_rfl) ytSy (cutsL (fun _=>rfl) (.cons ytey .nil) (by kernel_rfl)) (fun ps R K=>by unfold yfny; split <;> (try unfold z15z_L7) <;> rfl) (yGDy ycRy)
theorem yLNy (g:C_z15z):Same (ypMy (@z15z_ g)) (abody (yhty g) Tryz.f89 ya8y 2 [0,1] [] g.N):=by intro args; unfold ypMy; split; exact .inr fun R k=>(by kernel_rfl); exact .inl fun R k=>rfl
theorem yK3y [Fuel]:Ok 89 (ypMy (@z15z _)):=yaay std (.cons yCoy .nil) ⟨rfl,rfl,by kernel_rfl,rfl,rfl,rfl⟩ (yLNy ycRy) (cutsL (fun _=>rfl) (.cons yEwy (.cons ytey (.cons yDYy .nil))) (by kernel_rfl)) Tryz.func89 (by kernel_rfl) (by kernel_rfl)
abbrev yzry:Type 1:=List G_Spot→Int→{R:Type}→(List G_Spot→Int→Option R)→Option R
structure C_z54z where
 N:Nat
 z15z:yyoy
def z54z_ (g:C_z54z) (a1:List G_Spot) (a2:Int) {R:Type} (k0:List G_Spot→Int→Option R):Option R :=
 (g.z15z a1 (a1.length:Int) a2 (fun r3 r4=>k0 r3 r4))
noncomputable def yyBy [Fuel]:C_z54z:=⟨NN,@z15z _⟩
noncomputable def z54z [Fuel]:yzry:=@z54z_ yyBy
def ypey (g:yzry):Spec A:=fun args=>match args with | [.arr 52 a1,.fn 113 [.box [.d (.int .i64 a2)]]]=>fun k=>g a1 a2 (fun z0 z1=>k (.tup []) [.arr 52 z0,.fn 113 [.box [.d (.int .i64 z1)]]]) | _=>fun _=>none
noncomputable def yO4y (g:C_z54z):Env A:=mkE [(89,ypMy g.z15z)] [] [] [] [] [] [] [] [(89,0)] [0,1]
theorem yLvy (g:C_z54z):Same (ypey (@z54z_ g)) (abody (yO4y g) Tryz.f39 yjQy 2 [0,1] [] g.N):=by intro args; unfold ypey; split; exact .inr fun R k=>(by kernel_rfl); exact .inl fun R k=>rfl
theorem yBTy [Fuel]:Ok 39 (ypey (@z54z _)):=yaay std (.cons yK3y .nil) ⟨rfl,rfl,by kernel_rfl,rfl,rfl,rfl⟩ (yLvy yyBy) (cuts0 (fun _=>rfl) (by kernel_rfl)) Tryz.func39 (by kernel_rfl) (by kernel_rfl)
abbrev ym9y:Type 1:=List G_Spot→Int→Int→{R:Type}→(List (List UInt8)→Int→Option R)→Option R
structure C_Q_tuned where
 N:Nat
 z54z:yzry
 z27z:yyay
 Q_apart:yiWy
 z90z:ysSy
def yb0y (g:C_Q_tuned):Nat→List G_Spot→Int→Int→Int→Int→Int→Int→Int→Int→List Int→List G_Spot→List (List UInt8)→{R:Type}→(List G_Spot→Int→Int→Int→Int→Int→Int→List Int→List (List UInt8)→Option R)→Option R
 | 0,_,_,_,_,_,_,_,_,_,_,_,_,_,_=>none
 | n + 1,v54,v55,v56,v57,v58,v59,v60,v61,v62,v63,v64,v65,_,e0=>(bif (decide (v60 < v59)) then (inr v64 v60 (at_ v64 v60 fun x68=>(bif (decide ((v65.length + [x68.f_Call].length) * 16≤yazy)) then (g.Q_apart v56 x68.f_Hertz (fun r69=>yb0y g n v54 (w64 (v55 + r69)) x68.f_Hertz v57 v58 v59 (w64 (v60 + 1)) v61 v62 v63 v64 (v65 ++ [x68.f_Call]) e0)) else none))) else e0 v54 v55 v56 v57 v58 v61 v62 v63 v65)
def ycjy (g:C_Q_tuned):Nat→List G_Spot→Int→Int→Int→Int→Int→Int→List Int→List (List UInt8)→{R:Type}→(Int→List (List UInt8)→Option R)→Option R
 | 0,_,_,_,_,_,_,_,_,_,_,_=>none
 | n + 1,v4,v5,v6,v7,v8,v9,v10,v11,v12,_,e0=>(bif (decide (v8 < v7)) then (inr v11 v8 (at_ v11 v8 fun x46=>(g.z90z v4 (fun r47=>(g.z27z r47 v9 x46 v10 (fun r48 r49 r50 r51=>(g.z54z r48 r50 (fun r52 r53=>(yb0y g g.N v4 v5 v6 v7 v8 (r52.length:Int) 0 r49 r51 v11 r52 v12 (fun e70 e71 e72 e73 e74 e75 e76 e77 e78=>ycjy g n e70 e71 e72 e73 (w64 (e74 + 1)) e75 e76 e77 e78 e0)))))))))) else e0 v5 v12)
def yyfy (g:C_Q_tuned) (a1:List G_Spot) (a2 a3:Int) {R:Type} (k0:List (List UInt8)→Int→Option R):Option R :=
 (ycjy g g.N a1 0 a2 ([a3,(w64 (0 - a3))].length:Int) 0 a2 a3 [a3,(w64 (0 - a3))] [] (fun e79 e80=>k0 e80 e79))
noncomputable def yaFy [Fuel]:C_Q_tuned:=⟨NN,@z54z _,@z27z _,@Q_apart _,@z90z _⟩
noncomputable def Q_tuned [Fuel]:ym9y:=@yyfy yaFy
def yhWy (g:ym9y):Spec A:=fun args=>match args with | [.d (.sl 52 a1),.d (.int .i64 a2),.d (.int .i64 a3)]=>fun k=>g a1 a2 a3 (fun z0 z1=>k (.tup [.arr 9 z0,.d (.int .i64 z1)]) [.undef,.undef,.undef]) | _=>fun _=>none
def yhBy:SSt:=mkSh 56 11 [(0,.sl 52),(4,.ptr 0 0),(5,.ptr 1 0),(8,.own 9 7),(9,.int .i64),(10,.int .i64),(20,.own 3 2),(21,.int .i64),(22,.int .i64),(33,.own 52 6),(34,.int .i64),(35,.int .i64)] [(0,.box [.int .i64]),(1,.box [.int .i64]),(2,.row 3),(6,.row 52),(7,.row 9)]
def yc7y (g:C_Q_tuned) (n:Nat):LPT A:=fun ps=>match ps with | [.d (.sl 52 p1),.d (.int .i64 p2),.d (.int .i64 p3),.d (.int .i64 p4),.d (.int .i64 p5),.d (.int .i64 p6),.d (.int .i64 p7),.d (.int .i64 p8),.d (.int .i64 p9),.d (.sl 3 p10),.d (.sl 52 p11),.d (.sl 9 p12)]=>fun K=>yb0y g n p1 p2 p3 p4 p5 p6 p7 p8 p9 p10 p11 p12 (fun z0 z1 z2 z3 z4 z5 z6 z7 z8=>K (.exit 2) (mkSt 56 11 [(0,.d (.sl 52 z0)),(4,.ptr 0 0),(5,.ptr 1 0),(8,.own 9 7),(9,.d (.int .i64 z1)),(10,.d (.int .i64 z2)),(20,.own 3 2),(21,.d (.int .i64 z3)),(22,.d (.int .i64 z4))] [(0,some (.box [.d (.int .i64 z5)])),(1,some (.box [.d (.int .i64 z6)])),(2,some (.row 3 z7)),(7,some (.row 9 z8))])) | _=>fun _=>none
def yhyy:SSt:=mkSh 56 11 [(0,.sl 52),(4,.ptr 0 0),(5,.ptr 1 0),(8,.own 9 3),(9,.int .i64),(10,.int .i64),(20,.own 3 2),(21,.int .i64),(22,.int .i64)] [(0,.box [.int .i64]),(1,.box [.int .i64]),(2,.row 3),(3,.row 9)]
def ydey (g:C_Q_tuned) (n:Nat):LPT A:=fun ps=>match ps with | [.d (.sl 52 p1),.d (.int .i64 p2),.d (.int .i64 p3),.d (.int .i64 p4),.d (.int .i64 p5),.d (.int .i64 p6),.d (.int .i64 p7),.d (.sl 3 p8),.d (.sl 9 p9)]=>fun K=>ycjy g n p1 p2 p3 p4 p5 p6 p7 p8 p9 (fun z0 z1=>K (.exit 0) (mkSt 56 11 [(8,.own 9 3),(9,.d (.int .i64 z0))] [(3,some (.row 9 z1))])) | _=>fun _=>none
noncomputable def yt1y:Code:=(Tryz.f72.body).getD .skip
noncomputable def yeIy (g:C_Q_tuned):Env A:=mkE [(39,ypey g.z54z),(63,yoZy g.z27z),(71,yfmy g.Q_apart),(104,yh9y g.z90z)] [(4,[0]),(5,[1]),(12,[4]),(15,[8]),(20,[2]),(27,[5]),(29,[6]),(42,[9]),(43,[10])] [(9,⟨[0,4,5,8,9,10,20,21,22,33,34,35],[(8,9,7)],[0,1,2,6],[],[],[],[]⟩),(4,⟨[0,4,5,8,9,10,20,21,22],[(8,9,3)],[0,1,2],[],[],[],[]⟩)] [(9,⟨[0,4,5,8,9,10,20,21,22],[],[0,1,2,7],[],[],[],[]⟩),(4,⟨[8,9],[],[3],[],[],[],[]⟩)] [(9,yaey yhBy (yc7y g g.N)),(4,yaey yhyy (ydey g g.N))] [] [] [] [(39,0),(63,0)] []
theorem ys4y [Fuel]:yagy (yeIy yaFy).C:=ct_of (P:=Tryz.prog) (T:=T) (.cons yBTy (.cons yC1y (.cons ylWy (.cons ypmy .nil)))) (by kernel_rfl)
noncomputable def ymKy:Code:=sub [1,1,1,0,1,0,0,1,1,0,0,1,1,1,1,0,0] yt1y
theorem yx4y (g:C_Q_tuned) (n:Nat):yahy (yeIy g) g.N ymKy yhBy (yc7y g) n:=by intro ps; unfold yc7y; split; exact .inr fun R K=>(by kernel_rfl); exact .inl fun R K=>rfl
theorem ymMy [Fuel]:yacy (yeIy yaFy) NN ymKy:=yaby yhBy (yc7y yaFy) (by kernel_rfl) ys4y (cuts0 (fun _=>rfl) (by kernel_rfl)) (fun ps R K=>by unfold yc7y; split <;> (try unfold yb0y) <;> rfl) (yx4y yaFy)
noncomputable def ymFy:Code:=sub [1,1,1,0,1,0,0] yt1y
theorem yw4y (g:C_Q_tuned) (n:Nat):yahy (yeIy g) g.N ymFy yhyy (ydey g) n:=by intro ps; unfold ydey; split; exact .inr fun R K=>(by kernel_rfl); exact .inl fun R K=>rfl
theorem ywxy [Fuel]:yacy (yeIy yaFy) NN ymFy:=yaby yhyy (ydey yaFy) (by kernel_rfl) ys4y (cutsL (fun _=>rfl) (.cons ymMy .nil) (by kernel_rfl)) (fun ps R K=>by unfold ydey; split <;> (try unfold ycjy) <;> rfl) (yw4y yaFy)
theorem yDfy (g:C_Q_tuned):Same (yhWy (@yyfy g)) (abody (yeIy g) Tryz.f72 yt1y 11 [] [.arr 9,.asis] g.N):=by intro args; unfold yhWy; split; exact .inr fun R k=>(by kernel_rfl); exact .inl fun R k=>rfl
theorem yDAy [Fuel]:Ok 72 (yhWy (@Q_tuned _)):=yaay std (.cons yBTy (.cons yC1y (.cons ylWy (.cons ypmy .nil)))) ⟨rfl,rfl,by kernel_rfl,rfl,rfl,rfl⟩ (yDfy yaFy) (cutsL (fun _=>rfl) (.cons ymMy (.cons ywxy .nil)) (by kernel_rfl)) Tryz.func72 (by kernel_rfl) (by kernel_rfl)
abbrev yjky:Type 1:=List G_Band→List G_Spot→Int→Int→Int→{R:Type}→(List (List UInt8)→Int→Option R)→Option R
structure C_Q_SweepOf where
 N:Nat
 z10z:ytJy
 Q_tuned:ym9y
def ylqy (g:C_Q_SweepOf) (a1:List G_Band) (a2:List G_Spot) (a3 a4 a5:Int) {R:Type} (k0:List (List UInt8)→Int→Option R):Option R :=
 (g.z10z a1 a2 a3 a4 (fun r6=>(g.Q_tuned r6 a5 (-1) (fun r7 r8=>(g.Q_tuned r6 a5 1 (fun r9 r10=>(bif (decide (r10 < r8)) then k0 r9 r10 else k0 r7 r8)))))))
noncomputable def yjzy [Fuel]:C_Q_SweepOf:=⟨NN,@z10z _,@Q_tuned _⟩
noncomputable def Q_SweepOf [Fuel]:yjky:=@ylqy yjzy
def yeRy (g:yjky):Spec A:=fun args=>match args with | [.d (.sl 69 a1),.d (.sl 52 a2),.d (.int .i64 a3),.d (.int .i64 a4),.d (.int .i64 a5)]=>fun k=>g a1 a2 a3 a4 a5 (fun z0 z1=>k (.tup [.arr 9 z0,.d (.int .i64 z1)]) [.undef,.undef,.undef,.undef,.undef]) | _=>fun _=>none
noncomputable def yKqy:Code:=(Tryz.f21.body).getD .skip
noncomputable def yAMy (g:C_Q_SweepOf):Env A:=mkE [(29,yj9y g.z10z),(72,yhWy g.Q_tuned)] [(21,[0]),(25,[1]),(31,[2])] [] [] [] [] [] [] [] []
theorem yxSy (g:C_Q_SweepOf):Same (yeRy (@ylqy g)) (abody (yAMy g) Tryz.f21 yKqy 3 [] [.arr 9,.asis] g.N):=by intro args; unfold yeRy; split; exact .inr fun R k=>(by kernel_rfl); exact .inl fun R k=>rfl
theorem yzgy [Fuel]:Ok 21 (yeRy (@Q_SweepOf _)):=yaay std (.cons yB2y (.cons yDAy .nil)) ⟨rfl,rfl,by kernel_rfl,rfl,rfl,rfl⟩ (yxSy yjzy) (cuts0 (fun _=>rfl) (by kernel_rfl)) Tryz.func21 (by kernel_rfl) (by kernel_rfl)
abbrev yzIy:Type 1:=List G_Spot→List G_Spot→{R:Type}→(Bool→Option R)→Option R
def z37z_L4 (g:Nat):Nat→List G_Spot→List G_Spot→Int→Int→{R:Type}→(Bool→Option R)→Option R→Option R
 | 0,_,_,_,_,_,_,_=>none
 | n + 1,v3,v4,v5,v6,_,e0,e1=>(bif (decide (v6 < v5)) then (get_ v3 v6 fun x9=>(get_ v4 v6 fun x10=>(bif (!(ybty x9 x10)) then e0 false else z37z_L4 g n v3 v4 v5 (w64 (v6 + 1)) e0 e1))) else e1)
def z37z_ (g:Nat) (a1 a2:List G_Spot) {R:Type} (k0:Bool→Option R):Option R :=
 (bif ((a1.length:Int) != (a2.length:Int)) then k0 false else (z37z_L4 g g a1 a2 (a1.length:Int) 0 (fun e11=>k0 e11) (k0 true)))
noncomputable def z37z [Fuel]:yzIy:=@z37z_ NN
def yFfy (args:List (IV A)):Bool:=match args with | [.d (.sl 52 _),.d (.sl 52 _)]=>true | _=>false
def ypqy (g:yzIy):Spec A:=fun args=>match args with | [.d (.sl 52 a1),.d (.sl 52 a2)]=>fun k=>g a1 a2 (fun z0=>k (.d (.bool z0)) [.undef,.undef]) | _=>fun _=>none
def ykNy:SSt:=mkSh 26 0 [(0,.sl 52),(1,.sl 52),(12,.int .i64),(13,.int .i64)] []
def yfty (g:Nat) (n:Nat):LPT A:=fun ps=>match ps with | [.d (.sl 52 p1),.d (.sl 52 p2),.d (.int .i64 p3),.d (.int .i64 p4)]=>fun K=>z37z_L4 g n p1 p2 p3 p4 (fun z0=>K .ret (mkSt 26 0 [(4,.d (.bool z0))] [])) (K (.exit 0) (mkSt 26 0 [] [])) | _=>fun _=>none
noncomputable def yoXy:Code:=(Tryz.f22.body).getD .skip
noncomputable def yrSy (g:Nat):Env A:=mkE [] [] [(4,⟨[0,1,12,13],[],[],[],[],[],[]⟩)] [(4,⟨[4],[],[],[],[],[],[]⟩)] [(4,yaey ykNy (yfty g g))] [] [] [] [] []
theorem yM7y [Fuel]:yagy (yrSy NN).C:=ct_of (P:=Tryz.prog) (T:=T) .nil (by kernel_rfl)
noncomputable def ytxy:Code:=sub [1,1,0,1,0,0] yoXy
theorem yFiy (g:Nat) (n:Nat):yahy (yrSy g) g ytxy ykNy (yfty g) n:=by intro ps; unfold yfty; split; exact .inr fun R K=>(by kernel_rfl); exact .inl fun R K=>rfl
theorem yDMy [Fuel]:yacy (yrSy NN) NN ytxy:=yaby ykNy (yfty NN) (by kernel_rfl) yM7y (cuts0 (fun _=>rfl) (by kernel_rfl)) (fun ps R K=>by unfold yfty; split <;> (try unfold z37z_L4) <;> rfl) (yFiy NN)
theorem yJ9y (g:Nat):Same (ypqy (@z37z_ g)) (abody (yrSy g) Tryz.f22 yoXy 0 [] [.asis] g):=by intro args; unfold ypqy; split; exact .inr fun R k=>(by kernel_rfl); exact .inl fun R k=>rfl
theorem yKey [Fuel]:Ok 22 (ypqy (@z37z _)):=yaay std .nil ⟨rfl,rfl,by kernel_rfl,rfl,rfl,rfl⟩ (yJ9y NN) (cutsL (fun _=>rfl) (.cons yDMy .nil) (by kernel_rfl)) Tryz.func22 (by kernel_rfl) (by kernel_rfl)
abbrev yyKy:Type 1:=List (List UInt8)→List (List UInt8)→{R:Type}→(Bool→Option R)→Option R
def z29z_L4 (g:Nat):Nat→List (List UInt8)→List (List UInt8)→Int→Int→{R:Type}→(Bool→Option R)→Option R→Option R
 | 0,_,_,_,_,_,_,_=>none
 | n + 1,v3,v4,v5,v6,_,e0,e1=>(bif (decide (v6 < v5)) then (get_ v3 v6 fun x9=>(get_ v4 v6 fun x10=>(bif (!(x9 == x10)) then e0 false else z29z_L4 g n v3 v4 v5 (w64 (v6 + 1)) e0 e1))) else e1)
def z29z_ (g:Nat) (a1 a2:List (List UInt8)) {R:Type} (k0:Bool→Option R):Option R :=
 (bif ((a1.length:Int) != (a2.length:Int)) then k0 false else (z29z_L4 g g a1 a2 (a1.length:Int) 0 (fun e11=>k0 e11) (k0 true)))
noncomputable def z29z [Fuel]:yyKy:=@z29z_ NN
def yE4y (args:List (IV A)):Bool:=match args with | [.d (.sl 9 _),.d (.sl 9 _)]=>true | _=>false
def yo8y (g:yyKy):Spec A:=fun args=>match args with | [.d (.sl 9 a1),.d (.sl 9 a2)]=>fun k=>g a1 a2 (fun z0=>k (.d (.bool z0)) [.undef,.undef]) | _=>fun _=>none
def ylKy:SSt:=mkSh 26 0 [(0,.sl 9),(1,.sl 9),(12,.int .i64),(13,.int .i64)] []
def yfXy (g:Nat) (n:Nat):LPT A:=fun ps=>match ps with | [.d (.sl 9 p1),.d (.sl 9 p2),.d (.int .i64 p3),.d (.int .i64 p4)]=>fun K=>z29z_L4 g n p1 p2 p3 p4 (fun z0=>K .ret (mkSt 26 0 [(4,.d (.bool z0))] [])) (K (.exit 0) (mkSt 26 0 [] [])) | _=>fun _=>none
noncomputable def ypoy:Code:=(Tryz.f23.body).getD .skip
noncomputable def yruy (g:Nat):Env A:=mkE [] [] [(4,⟨[0,1,12,13],[],[],[],[],[],[]⟩)] [(4,⟨[4],[],[],[],[],[],[]⟩)] [(4,yaey ylKy (yfXy g g))] [] [] [] [] []
theorem yJFy [Fuel]:yagy (yruy NN).C:=ct_of (P:=Tryz.prog) (T:=T) .nil (by kernel_rfl)
noncomputable def yrVy:Code:=sub [1,1,0,1,0,0] ypoy
theorem yFRy (g:Nat) (n:Nat):yahy (yruy g) g yrVy ylKy (yfXy g) n:=by intro ps; unfold yfXy; split; exact .inr fun R K=>(by kernel_rfl); exact .inl fun R K=>rfl
theorem yDTy [Fuel]:yacy (yruy NN) NN yrVy:=yaby ylKy (yfXy NN) (by kernel_rfl) yJFy (cuts0 (fun _=>rfl) (by kernel_rfl)) (fun ps R K=>by unfold yfXy; split <;> (try unfold z29z_L4) <;> rfl) (yFRy NN)
theorem yOcy (g:Nat):Same (yo8y (@z29z_ g)) (abody (yruy g) Tryz.f23 ypoy 0 [] [.asis] g):=by intro args; unfold yo8y; split; exact .inr fun R k=>(by kernel_rfl); exact .inl fun R k=>rfl
theorem yLey [Fuel]:Ok 23 (yo8y (@z29z _)):=yaay std .nil ⟨rfl,rfl,by kernel_rfl,rfl,rfl,rfl⟩ (yOcy NN) (cutsL (fun _=>rfl) (.cons yDTy .nil) (by kernel_rfl)) Tryz.func23 (by kernel_rfl) (by kernel_rfl)
abbrev yy9y:Type 1:=List Int→{R:Type}→(Int→Option R)→Option R
structure C_z60z where
 N:Nat
 kit_IsMode:ycHy
def z60z_L4 (g:C_z60z):Nat→List Int→List Int→Int→Int→{R:Type}→(Int→Option R)→Option R→Option R
 | 0,_,_,_,_,_,_,_=>none
 | n + 1,v2,v3,v4,v5,_,e0,e1=>(bif (decide (v5 < v4)) then (get_ v3 v5 fun x9=>(g.kit_IsMode x9 (fun r10=>(bif (!r10) then e0 4 else (bif (decide (v5 > 0)) then (get_ v2 (w64 (v5 - 1)) fun x11=>(bif (decide (x9≤x11)) then e0 7 else z60z_L4 g n v2 v3 v4 (w64 (v5 + 1)) e0 e1)) else z60z_L4 g n v2 v3 v4 (w64 (v5 + 1)) e0 e1))))) else e1)
def z60z_ (g:C_z60z) (a1:List Int) {R:Type} (k0:Int→Option R):Option R :=
 (bif ((a1.length:Int) == 0) then k0 8 else (z60z_L4 g g.N a1 a1 (a1.length:Int) 0 (fun e12=>k0 e12) (k0 0)))
noncomputable def ydAy [Fuel]:C_z60z:=⟨NN,@kit_IsMode _⟩
noncomputable def z60z [Fuel]:yy9y:=@z60z_ ydAy
def yoEy (g:yy9y):Spec A:=fun args=>match args with | [.d (.sl 3 a1)]=>fun k=>g a1 (fun z0=>k (.d (.int .i64 z0)) [.undef]) | _=>fun _=>none
def ylBy:SSt:=mkSh 30 0 [(0,.sl 3),(8,.sl 3),(9,.int .i64),(10,.int .i64)] []
def yfhy (g:C_z60z) (n:Nat):LPT A:=fun ps=>match ps with | [.d (.sl 3 p1),.d (.sl 3 p2),.d (.int .i64 p3),.d (.int .i64 p4)]=>fun K=>z60z_L4 g n p1 p2 p3 p4 (fun z0=>K .ret (mkSt 30 0 [(2,.d (.int .i64 z0))] [])) (K (.exit 0) (mkSt 30 0 [] [])) | _=>fun _=>none
noncomputable def yzny:Code:=(Tryz.f148.body).getD .skip
noncomputable def yrEy (g:C_z60z):Env A:=mkE [(49,ybUy g.kit_IsMode)] [] [(4,⟨[0,8,9,10],[],[],[],[],[],[]⟩)] [(4,⟨[2],[],[],[],[],[],[]⟩)] [(4,yaey ylBy (yfhy g g.N))] [] [] [] [] []
theorem yJYy [Fuel]:yagy (yrEy ydAy).C:=ct_of (P:=Tryz.prog) (T:=T) (.cons ycfy .nil) (by kernel_rfl)
noncomputable def yrWy:Code:=sub [1,1,0,1,0,0] yzny
theorem yGay (g:C_z60z) (n:Nat):yahy (yrEy g) g.N yrWy ylBy (yfhy g) n:=by intro ps; unfold yfhy; split; exact .inr fun R K=>(by kernel_rfl); exact .inl fun R K=>rfl
theorem yDsy [Fuel]:yacy (yrEy ydAy) NN yrWy:=yaby ylBy (yfhy ydAy) (by kernel_rfl) yJYy (cuts0 (fun _=>rfl) (by kernel_rfl)) (fun ps R K=>by unfold yfhy; split <;> (try unfold z60z_L4) <;> rfl) (yGay ydAy)
theorem yN0y (g:C_z60z):Same (yoEy (@z60z_ g)) (abody (yrEy g) Tryz.f148 yzny 0 [] [.asis] g.N):=by intro args; unfold yoEy; split; exact .inr fun R k=>(by kernel_rfl); exact .inl fun R k=>rfl
theorem yBty [Fuel]:Ok 148 (yoEy (@z60z _)):=yaay std (.cons ycfy .nil) ⟨rfl,rfl,by kernel_rfl,rfl,rfl,rfl⟩ (yN0y ydAy) (cutsL (fun _=>rfl) (.cons yDsy .nil) (by kernel_rfl)) Tryz.func148 (by kernel_rfl) (by kernel_rfl)
abbrev yizy:Type 1:=G_Window→{R:Type}→(Bool→Option R)→Option R
def yjEy (g:Nat) (a1:G_Window) {R:Type} (k0:Bool→Option R):Option R :=
 (bif (decide (a1.f_From ≥ 0)) then (bif (decide (a1.f_From < a1.f_To)) then k0 (decide (a1.f_To≤345686400000)) else k0 false) else k0 false)
noncomputable def kit_IsTime [Fuel]:yizy:=@yjEy NN
def yeiy (g:yizy):Spec A:=fun args=>match args with | [.agg [.d (.int .i64 a1),.d (.int .i64 a2)]]=>fun k=>g ⟨a1,a2⟩ (fun z0=>k (.d (.bool z0)) [.undef]) | _=>fun _=>none
noncomputable def yHTy:Code:=(Tryz.f149.body).getD .skip
noncomputable def yzcy (g:Nat):Env A:=mkE [] [(1,[0])] [] [] [] [] [] [] [] []
theorem ywmy (g:Nat):Same (yeiy (@yjEy g)) (abody (yzcy g) Tryz.f149 yHTy 1 [] [.asis] g):=by intro args; unfold yeiy; split; exact .inr fun R k=>(by kernel_rfl); exact .inl fun R k=>rfl
theorem ymyy [Fuel]:Ok 149 (yeiy (@kit_IsTime _)):=yaay std .nil ⟨rfl,rfl,by kernel_rfl,rfl,rfl,rfl⟩ (ywmy NN) (cuts0 (fun _=>rfl) (by kernel_rfl)) Tryz.func149 (by kernel_rfl) (by kernel_rfl)
abbrev yyey:Type 1:=G_Segment→G_Segment→{R:Type}→(Int→Option R)→Option R
structure C_z84z where
 N:Nat
 strings_Compare:ybAy
 z81z:yn0y
 z69z:ykry
def z84z_ (g:C_z84z) (a1 a2:G_Segment) {R:Type} (k0:Int→Option R):Option R :=
 (g.strings_Compare a1.f_Class a2.f_Class (fun r3=>(g.z69z a1.f_Low a2.f_Low (fun r4=>(g.z69z a1.f_High a2.f_High (fun r5=>(g.z69z a1.f_Time.f_From a2.f_Time.f_From (fun r6=>(g.z81z [r3,r4,r5,r6] (fun r7=>k0 r7))))))))))
noncomputable def yzNy [Fuel]:C_z84z:=⟨NN,@strings_Compare _,@z81z _,@z69z _⟩
noncomputable def z84z [Fuel]:yyey:=@z84z_ yzNy
def ypwy (g:yyey):Spec A:=fun args=>match args with | [.agg [.d (.str a1),.d (.int .i64 a2),.d (.int .i64 a3),.d (.sl 3 a4),.d (.int .i64 a5),.d (.int .i64 a6)],.agg [.d (.str a7),.d (.int .i64 a8),.d (.int .i64 a9),.d (.sl 3 a10),.d (.int .i64 a11),.d (.int .i64 a12)]]=>fun k=>g ⟨a1,a2,a3,a4,⟨a5,a6⟩⟩ ⟨a7,a8,a9,a10,⟨a11,a12⟩⟩ (fun z0=>k (.d (.int .i64 z0)) [.undef,.undef]) | _=>fun _=>none
noncomputable def yIKy:Code:=(Tryz.f150.body).getD .skip
noncomputable def yQey (g:C_z84z):Env A:=mkE [(93,ybKy g.strings_Compare),(123,yiay g.z81z),(124,ygry g.z69z)] [(2,[0]),(3,[1]),(27,[2])] [] [] [] [] [] [] [] []
theorem yOzy (g:C_z84z):Same (ypwy (@z84z_ g)) (abody (yQey g) Tryz.f150 yIKy 3 [] [.asis] g.N):=by intro args; unfold ypwy; split; exact .inr fun R k=>(by kernel_rfl); exact .inl fun R k=>rfl
theorem yCqy [Fuel]:Ok 150 (ypwy (@z84z _)):=yaay std (.cons ycky (.cons yuiy (.cons ykyy .nil))) ⟨rfl,rfl,by kernel_rfl,rfl,rfl,rfl⟩ (yOzy yzNy) (cuts0 (fun _=>rfl) (by kernel_rfl)) Tryz.func150 (by kernel_rfl) (by kernel_rfl)
abbrev yxBy:Type 1:=List G_Segment→{R:Type}→(Int→Option R)→Option R
structure C_z49z where
 N:Nat
 kit_IsKey:ycvy
 z60z:yy9y
 kit_IsTime:yizy
 z84z:yyey
def z49z_L4 (g:C_z49z):Nat→List G_Segment→List G_Segment→Int→Int→{R:Type}→(Int→Option R)→Option R→Option R
 | 0,_,_,_,_,_,_,_=>none
 | n + 1,v2,v3,v4,v5,_,e0,e1=>(bif (decide (v5 < v4)) then (get_ v3 v5 fun x12=>(g.kit_IsKey x12.f_Class (fun r13=>(bif (!r13) then e0 5 else (bif (decide (x12.f_Low < 0)) then e0 1 else (bif (decide (x12.f_Low ≥ x12.f_High)) then e0 1 else (bif (decide (x12.f_High > 30000000000)) then e0 1 else (g.z60z x12.f_Modes (fun r14=>(bif (r14 != 0) then e0 r14 else (g.kit_IsTime x12.f_Time (fun r15=>(bif (!r15) then e0 1 else (bif (decide (v5 > 0)) then (get_ v2 (w64 (v5 - 1)) fun x16=>(g.z84z x16 x12 (fun r17=>(bif (decide (r17 ≥ 0)) then e0 7 else z49z_L4 g n v2 v3 v4 (w64 (v5 + 1)) e0 e1)))) else z49z_L4 g n v2 v3 v4 (w64 (v5 + 1)) e0 e1)))))))))))))) else e1)
def z49z_ (g:C_z49z) (a1:List G_Segment) {R:Type} (k0:Int→Option R):Option R :=
 (bif (decide ((a1.length:Int) > 500)) then k0 2 else (z49z_L4 g g.N a1 a1 (a1.length:Int) 0 (fun e18=>k0 e18) (k0 0)))
noncomputable def ydEy [Fuel]:C_z49z:=⟨NN,@kit_IsKey _,@z60z _,@kit_IsTime _,@z84z _⟩
noncomputable def z49z [Fuel]:yxBy:=@z49z_ ydEy
def ypby (g:yxBy):Spec A:=fun args=>match args with | [.d (.sl 110 a1)]=>fun k=>g a1 (fun z0=>k (.d (.int .i64 z0)) [.undef]) | _=>fun _=>none
def ylty:SSt:=mkSh 58 1 [(0,.sl 110),(9,.sl 110),(10,.int .i64),(11,.int .i64)] []
def yfLy (g:C_z49z) (n:Nat):LPT A:=fun ps=>match ps with | [.d (.sl 110 p1),.d (.sl 110 p2),.d (.int .i64 p3),.d (.int .i64 p4)]=>fun K=>z49z_L4 g n p1 p2 p3 p4 (fun z0=>K .ret (mkSt 58 1 [(2,.d (.int .i64 z0))] [])) (K (.exit 0) (mkSt 58 1 [] [])) | _=>fun _=>none
noncomputable def yz8y:Code:=(Tryz.f114.body).getD .skip
noncomputable def ytwy (g:C_z49z):Env A:=mkE [(115,ybOy g.kit_IsKey),(148,yoEy g.z60z),(149,yeiy g.kit_IsTime),(150,ypwy g.z84z)] [(4,[0])] [(4,⟨[0,9,10,11],[],[],[],[],[],[]⟩)] [(4,⟨[2],[],[],[],[],[],[]⟩)] [(4,yaey ylty (yfLy g g.N))] [] [] [] [] []
theorem yN4y [Fuel]:yagy (ytwy ydEy).C:=ct_of (P:=Tryz.prog) (T:=T) (.cons ybly (.cons yBty (.cons ymyy (.cons yCqy .nil)))) (by kernel_rfl)
noncomputable def ysGy:Code:=sub [1,1,0,1,0,0] yz8y
theorem yE3y (g:C_z49z) (n:Nat):yahy (ytwy g) g.N ysGy ylty (yfLy g) n:=by intro ps; unfold yfLy; split; exact .inr fun R K=>(by kernel_rfl); exact .inl fun R K=>rfl
theorem yDxy [Fuel]:yacy (ytwy ydEy) NN ysGy:=yaby ylty (yfLy ydEy) (by kernel_rfl) yN4y (cuts0 (fun _=>rfl) (by kernel_rfl)) (fun ps R K=>by unfold yfLy; split <;> (try unfold z49z_L4) <;> rfl) (yE3y ydEy)
theorem yMmy (g:C_z49z):Same (ypby (@z49z_ g)) (abody (ytwy g) Tryz.f114 yz8y 1 [] [.asis] g.N):=by intro args; unfold ypby; split; exact .inr fun R k=>(by kernel_rfl); exact .inl fun R k=>rfl
theorem yKFy [Fuel]:Ok 114 (ypby (@z49z _)):=yaay std (.cons ybly (.cons yBty (.cons ymyy (.cons yCqy .nil)))) ⟨rfl,rfl,by kernel_rfl,rfl,rfl,rfl⟩ (yMmy ydEy) (cutsL (fun _=>rfl) (.cons yDxy .nil) (by kernel_rfl)) Tryz.func114 (by kernel_rfl) (by kernel_rfl)
abbrev yjvy:Type 1:=Int→Int→{R:Type}→(G_Row→Option R)→Option R
def ysby (g:Nat) (a1 a2:Int) {R:Type} (k0:G_Row→Option R):Option R :=
 k0 (⟨(w64 (a1 - (w64 (Int.tdiv a2 2)))),(w64 ((w64 (a1 - (w64 (Int.tdiv a2 2)))) + a2))⟩:G_Row)
noncomputable def band_used [Fuel]:yjvy:=@ysby NN
def ye8y (g:yjvy):Spec A:=fun args=>match args with | [.d (.int .i64 a1),.d (.int .i64 a2)]=>fun k=>g a1 a2 (fun z0=>k (.agg [.d (.int .i64 z0.f_From),.d (.int .i64 z0.f_To)]) [.undef,.undef]) | _=>fun _=>none
noncomputable def yIJy:Code:=(Tryz.f116.body).getD .skip
noncomputable def yAwy (g:Nat):Env A:=mkE [] [(4,[0])] [] [] [] [] [] [] [] []
theorem yzPy (g:Nat):Same (ye8y (@ysby g)) (abody (yAwy g) Tryz.f116 yIJy 1 [] [.asis] g):=by intro args; unfold ye8y; split; exact .inr fun R k=>(by kernel_rfl); exact .inl fun R k=>rfl
theorem yxdy [Fuel]:Ok 116 (ye8y (@band_used _)):=yaay std .nil ⟨rfl,rfl,by kernel_rfl,rfl,rfl,rfl⟩ (yzPy NN) (cuts0 (fun _=>rfl) (by kernel_rfl)) Tryz.func116 (by kernel_rfl) (by kernel_rfl)
abbrev ynqy:Type 1:=G_Window→Int→{R:Type}→(Bool→Option R)→Option R
def yqRy (g:Nat) (a1:G_Window) (a2:Int) {R:Type} (k0:Bool→Option R):Option R :=
 (bif (decide (a1.f_From≤a2)) then k0 (decide (a2 < a1.f_To)) else k0 false)
noncomputable def kit_Has [Fuel]:ynqy:=@yqRy NN
def yhSy (g:ynqy):Spec A:=fun args=>match args with | [.agg [.d (.int .i64 a1),.d (.int .i64 a2)],.d (.int .i64 a3)]=>fun k=>g ⟨a1,a2⟩ a3 (fun z0=>k (.d (.bool z0)) [.undef,.undef]) | _=>fun _=>none
noncomputable def yG8y:Code:=(Tryz.f154.body).getD .skip
noncomputable def yFDy (g:Nat):Env A:=mkE [] [(2,[0])] [] [] [] [] [] [] [] []
theorem yDSy (g:Nat):Same (yhSy (@yqRy g)) (abody (yFDy g) Tryz.f154 yG8y 1 [] [.asis] g):=by intro args; unfold yhSy; split; exact .inr fun R k=>(by kernel_rfl); exact .inl fun R k=>rfl
theorem ysBy [Fuel]:Ok 154 (yhSy (@kit_Has _)):=yaay std .nil ⟨rfl,rfl,by kernel_rfl,rfl,rfl,rfl⟩ (yDSy NN) (cuts0 (fun _=>rfl) (by kernel_rfl)) Tryz.func154 (by kernel_rfl) (by kernel_rfl)
end Go.Am
