/- The functions of the program as Lean functions, each shown to be what the code computes, part 8. No condition: lemmas for the claim. -/
import Derived.Test.YtkcbebmbmffkjaaGreatDoorF0
import Derived.Test.YtkcbebmbmffkjaaGreatDoorFSh
import Derived.Test.YtkcbebmbmffkjaaGreatDoorF2
import Derived.Test.YtkcbebmbmffkjaaGreatDoorF5
import Derived.Test.YtkcbebmbmffkjaaGreatDoorF6
import Derived.Test.YtkcbebmbmffkjaaGreatDoorF7
set_option linter.unusedVariables false
set_option maxRecDepth 100000
namespace Go.Am
open Go Go.Proofs
abbrev T_z2z:Type 1:=List G_Spot→Int→Int→Int→Bool→Int→{R:Type}→(List G_Spot→Int→Bool→Int→Option R)→Option R
structure C_z2z where
 N:Nat
 z45z:yyJy
def z2z_L4 (g:C_z2z):Nat→Int→Int→Int→Int→List G_Spot→Int→Bool→Int→{R:Type}→(Int→Int→Int→List G_Spot→Int→Bool→Int→Option R)→Option R
 | 0,_,_,_,_,_,_,_,_,_,_=>none
 | n + 1,v49,v50,v51,v52,v53,v54,v55,v56,_,e0=>(bif (decide (v52 > v49)) then (inr v53 v52 (at_ v53 v52 fun x67=>(inr v53 (w64 (v52 - 1)) (at_ v53 (w64 (v52 - 1)) fun x68=>(g.z45z x67 x68 v54 v55 v56 (fun r69 r70 r71 r72=>(bif (decide (r69 < 0)) then (inr v53 (w64 (v52 - 1)) (at_ v53 (w64 (v52 - 1)) fun x73=>(inr v53 v52 (at_ v53 v52 fun x74=>(inr v53 v52 (at_ v53 v52 fun x75=>(inr (set_ v53 v52 x73) (w64 (v52 - 1)) (at_ (set_ v53 v52 x73) (w64 (v52 - 1)) fun x76=>z2z_L4 g n v49 v50 v51 (w64 (v52 - 1)) (set_ (set_ v53 v52 x73) (w64 (v52 - 1)) x74) r70 r71 r72 e0)))))))) else e0 v49 v50 v51 v53 r70 r71 r72))))))) else e0 v49 v50 v51 v53 v54 v55 v56)
def z2z_L1 (g:C_z2z):Nat→Int→Int→Int→List G_Spot→Int→Bool→Int→{R:Type}→(List G_Spot→Int→Bool→Int→Option R)→Option R
 | 0,_,_,_,_,_,_,_,_,_=>none
 | n + 1,v7,v8,v9,v10,v11,v12,v13,_,e0=>(bif (decide (v9 < v8)) then (z2z_L4 g g.N v7 v8 v9 v9 v10 v11 v12 v13 (fun e77 e78 e79 e80 e81 e82 e83=>z2z_L1 g n e77 e78 (w64 (e79 + 1)) e80 e81 e82 e83 e0)) else e0 v10 v11 v12 v13)
def z2z_ (g:C_z2z) (a1:List G_Spot) (a2 a3 a4:Int) (a5:Bool) (a6:Int) {R:Type} (k0:List G_Spot→Int→Bool→Int→Option R):Option R :=
 (z2z_L1 g g.N a2 a3 (w64 (a2 + 1)) a1 a4 a5 a6 (fun e84 e85 e86 e87=>k0 e84 e85 e86 e87))
noncomputable def I_z2z [Fuel]:C_z2z:=⟨NN,@z45z _⟩
noncomputable def z2z [Fuel]:T_z2z:=@z2z_ I_z2z
def ysMy (g:T_z2z):Spec A:=fun args=>match args with | [.arr 52 a1,.d (.int .i64 a2),.d (.int .i64 a3),.fn 105 [.box [.fn 102 [.cel [.int .i64 a4] 0,.cel [.bool a5] 0]],.box [.fn 103 [.cel [.int .i64 a6] 0]]]]=>fun k=>g a1 a2 a3 a4 a5 a6 (fun z0 z1 z2 z3=>k (.tup []) [.arr 52 z0,.undef,.undef,.fn 105 [.box [.fn 102 [.cel [.int .i64 z1] 0,.cel [.bool z2] 0]],.box [.fn 103 [.cel [.int .i64 z3] 0]]]]) | _=>fun _=>none
def ym1y:SSt:=mkSh 53 3 [(0,.own 52 0),(1,.int .i64),(2,.int .i64),(3,.fn 105 [.ptr 1 0,.ptr 2 0]),(8,.int .i64),(9,.int .i64)] [(0,.row 52),(1,.box [.fn 102 [.cel [.int .i64] 0,.cel [.bool] 0]]),(2,.box [.fn 103 [.cel [.int .i64] 0]])]
def yhcy (g:C_z2z) (n:Nat):LPT A:=fun ps=>match ps with | [.d (.int .i64 p1),.d (.int .i64 p2),.d (.int .i64 p3),.d (.int .i64 p4),.d (.sl 52 p5),.d (.int .i64 p6),.d (.bool p7),.d (.int .i64 p8)]=>fun K=>z2z_L4 g n p1 p2 p3 p4 p5 p6 p7 p8 (fun z0 z1 z2 z3 z4 z5 z6=>K (.exit 2) (mkSt 53 3 [(0,.own 52 0),(1,.d (.int .i64 z0)),(2,.d (.int .i64 z1)),(3,.fn 105 [.ptr 1 0,.ptr 2 0]),(8,.d (.int .i64 z2))] [(0,some (.row 52 z3)),(1,some (.box [.fn 102 [.cel [.int .i64 z4] 0,.cel [.bool z5] 0]])),(2,some (.box [.fn 103 [.cel [.int .i64 z6] 0]]))])) | _=>fun _=>none
def ym3y:SSt:=mkSh 53 3 [(0,.own 52 0),(1,.int .i64),(2,.int .i64),(3,.fn 105 [.ptr 1 0,.ptr 2 0]),(8,.int .i64)] [(0,.row 52),(1,.box [.fn 102 [.cel [.int .i64] 0,.cel [.bool] 0]]),(2,.box [.fn 103 [.cel [.int .i64] 0]])]
def ygTy (g:C_z2z) (n:Nat):LPT A:=fun ps=>match ps with | [.d (.int .i64 p1),.d (.int .i64 p2),.d (.int .i64 p3),.d (.sl 52 p4),.d (.int .i64 p5),.d (.bool p6),.d (.int .i64 p7)]=>fun K=>z2z_L1 g n p1 p2 p3 p4 p5 p6 p7 (fun z0 z1 z2 z3=>K (.exit 0) (mkSt 53 3 [(0,.own 52 0),(3,.fn 105 [.ptr 1 0,.ptr 2 0])] [(0,some (.row 52 z0)),(1,some (.box [.fn 102 [.cel [.int .i64 z1] 0,.cel [.bool z2] 0]])),(2,some (.box [.fn 103 [.cel [.int .i64 z3] 0]]))])) | _=>fun _=>none
noncomputable def E_z2z (g:C_z2z):Env A:=mkE [(105,yoSy g.z45z)] [] [(4,⟨[0,1,2,3,8,9],[],[0,1,2],[],[],[],[]⟩),(1,⟨[0,1,2,3,8],[],[0,1,2],[],[],[],[]⟩)] [(4,⟨[0,1,2,3,8],[],[0,1,2],[],[],[],[]⟩),(1,⟨[0,3],[],[0,1,2],[],[],[],[]⟩)] [(4,yaey ym1y (yhcy g g.N)),(1,yaey ym3y (ygTy g g.N))] [] [] [] [] [0,3]
theorem yENy [Fuel]:yagy (E_z2z I_z2z).C:=ct_of (P:=Tryz.prog) (T:=T) (.cons yBqy .nil) (by kernel_rfl)
noncomputable def yvwy:Code:=sub [1,0,0,1,0,0,1,0,0] ybry
theorem yG4y (g:C_z2z) (n:Nat):yahy (E_z2z g) g.N yvwy ym1y (yhcy g) n:=by intro ps; unfold yhcy; split; exact .inr fun R K=>(by kernel_rfl); exact .inl fun R K=>rfl
theorem yvJy [Fuel]:yacy (E_z2z I_z2z) NN yvwy:=yaby ym1y (yhcy I_z2z) (by kernel_rfl) yENy (cuts0 (fun _=>rfl) (by kernel_rfl)) (fun ps R K=>by unfold yhcy; split <;> (try unfold z2z_L4) <;> rfl) (yG4y I_z2z)
noncomputable def yuWy:Code:=sub [1,0,0] ybry
theorem yJny (g:C_z2z) (n:Nat):yahy (E_z2z g) g.N yuWy ym3y (ygTy g) n:=by intro ps; unfold ygTy; split; exact .inr fun R K=>(by kernel_rfl); exact .inl fun R K=>rfl
theorem yFWy [Fuel]:yacy (E_z2z I_z2z) NN yuWy:=yaby ym3y (ygTy I_z2z) (by kernel_rfl) yENy (cutsL (fun _=>rfl) (.cons yvJy .nil) (by kernel_rfl)) (fun ps R K=>by unfold ygTy; split <;> (try unfold z2z_L1) <;> rfl) (yJny I_z2z)
theorem yPwy (g:C_z2z):Same (ysMy (@z2z_ g)) (abody (E_z2z g) Tryz.f128 ybry 3 [0,1,2] [] g.N):=by intro args; unfold ysMy; split; exact .inr fun R k=>(by kernel_rfl); exact .inl fun R k=>rfl
theorem yGhy [Fuel]:Ok 128 (ysMy (@z2z _)):=yaay std (.cons yBqy .nil) ⟨rfl,rfl,by kernel_rfl,rfl,rfl,rfl⟩ (yPwy I_z2z) (cutsL (fun _=>rfl) (.cons yvJy (.cons yFWy .nil)) (by kernel_rfl)) Tryz.func128 (by kernel_rfl) (by kernel_rfl)
abbrev T_z0z:Type 1:=List G_Spot→Int→Int→Bool→Int→{R:Type}→(List G_Spot→Int→Bool→Int→Option R)→Option R
structure C_z0z where
 N:Nat
 z2z:T_z2z
def z0z_L2 (g:C_z0z):Nat→Int→Int→Int→Int→List G_Spot→Int→Bool→Int→{R:Type}→(Int→Int→Int→List G_Spot→Int→Bool→Int→Option R)→Option R
 | 0,_,_,_,_,_,_,_,_,_,_=>none
 | n + 1,v6,v7,v8,v9,v10,v11,v12,v13,_,e0=>(bif (decide (v9≤v6)) then (g.z2z v10 v8 v9 v11 v12 v13 (fun r18 r19 r20 r21=>z0z_L2 g n v6 v7 v9 (w64 (v9 + v7)) r18 r19 r20 r21 e0)) else e0 v6 v7 v8 v10 v11 v12 v13)
def z0z_L9 (g:C_z0z):Nat→Int→Int→Int→Int→List G_Spot→Int→Bool→Int→{R:Type}→(Int→Int→Int→List G_Spot→Int→Bool→Int→Option R)→Option R
 | 0,_,_,_,_,_,_,_,_,_,_=>none
 | n + 1,v54,v55,v56,v57,v58,v59,v60,v61,_,e0=>(bif (decide (v57≤v54)) then none else e0 v54 v55 v56 v58 v59 v60 v61)
def z0z_L7 (g:C_z0z):Nat→Int→Int→List G_Spot→Int→Bool→Int→{R:Type}→(List G_Spot→Int→Bool→Int→Option R)→Option R
 | 0,_,_,_,_,_,_,_,_=>none
 | n + 1,v33,v34,v35,v36,v37,v38,_,e0=>(bif (decide (v34 < v33)) then (z0z_L9 g g.N v33 v34 0 (w64 (2 * v34)) v35 v36 v37 v38 (fun e62 e63 e64 e65 e66 e67 e68=>(bif (decide ((w64 (e64 + e63)) < e62)) then none else z0z_L7 g n e62 (w64 (e63 * 2)) e65 e66 e67 e68 e0))) else e0 v35 v36 v37 v38)
def z0z_ (g:C_z0z) (a1:List G_Spot) (a2 a3:Int) (a4:Bool) (a5:Int) {R:Type} (k0:List G_Spot→Int→Bool→Int→Option R):Option R :=
 (z0z_L2 g g.N a2 20 0 20 a1 a3 a4 a5 (fun e22 e23 e24 e25 e26 e27 e28=>(g.z2z e25 e24 e22 e26 e27 e28 (fun r29 r30 r31 r32=>(z0z_L7 g g.N e22 e23 r29 r30 r31 r32 (fun e69 e70 e71 e72=>k0 e69 e70 e71 e72))))))
noncomputable def I_z0z [Fuel]:C_z0z:=⟨NN,@z2z _⟩
noncomputable def z0z [Fuel]:T_z0z:=@z0z_ I_z0z
def yrty (g:T_z0z):Spec A:=fun args=>match args with | [.arr 52 a1,.d (.int .i64 a2),.fn 105 [.box [.fn 102 [.cel [.int .i64 a3] 0,.cel [.bool a4] 0]],.box [.fn 103 [.cel [.int .i64 a5] 0]]]]=>fun k=>g a1 a2 a3 a4 a5 (fun z0 z1 z2 z3=>k (.tup []) [.arr 52 z0,.undef,.fn 105 [.box [.fn 102 [.cel [.int .i64 z1] 0,.cel [.bool z2] 0]],.box [.fn 103 [.cel [.int .i64 z3] 0]]]]) | _=>fun _=>none
def ynuy:SSt:=mkSh 63 3 [(0,.own 52 0),(1,.int .i64),(2,.fn 105 [.ptr 1 0,.ptr 2 0]),(6,.int .i64),(7,.int .i64),(8,.int .i64)] [(0,.row 52),(1,.box [.fn 102 [.cel [.int .i64] 0,.cel [.bool] 0]]),(2,.box [.fn 103 [.cel [.int .i64] 0]])]
def yhay (g:C_z0z) (n:Nat):LPT A:=fun ps=>match ps with | [.d (.int .i64 p1),.d (.int .i64 p2),.d (.int .i64 p3),.d (.int .i64 p4),.d (.sl 52 p5),.d (.int .i64 p6),.d (.bool p7),.d (.int .i64 p8)]=>fun K=>z0z_L2 g n p1 p2 p3 p4 p5 p6 p7 p8 (fun z0 z1 z2 z3 z4 z5 z6=>K (.exit 0) (mkSt 63 3 [(0,.own 52 0),(1,.d (.int .i64 z0)),(2,.fn 105 [.ptr 1 0,.ptr 2 0]),(6,.d (.int .i64 z1)),(7,.d (.int .i64 z2))] [(0,some (.row 52 z3)),(1,some (.box [.fn 102 [.cel [.int .i64 z4] 0,.cel [.bool z5] 0]])),(2,some (.box [.fn 103 [.cel [.int .i64 z6] 0]]))])) | _=>fun _=>none
def ym6y:SSt:=mkSh 63 3 [(0,.own 52 0),(1,.int .i64),(2,.fn 105 [.ptr 1 0,.ptr 2 0]),(6,.int .i64),(7,.int .i64),(8,.int .i64)] [(0,.row 52),(1,.box [.fn 102 [.cel [.int .i64] 0,.cel [.bool] 0]]),(2,.box [.fn 103 [.cel [.int .i64] 0]])]
def yhly (g:C_z0z) (n:Nat):LPT A:=fun ps=>match ps with | [.d (.int .i64 p1),.d (.int .i64 p2),.d (.int .i64 p3),.d (.int .i64 p4),.d (.sl 52 p5),.d (.int .i64 p6),.d (.bool p7),.d (.int .i64 p8)]=>fun K=>z0z_L9 g n p1 p2 p3 p4 p5 p6 p7 p8 (fun z0 z1 z2 z3 z4 z5 z6=>K (.exit 4) (mkSt 63 3 [(0,.own 52 0),(1,.d (.int .i64 z0)),(2,.fn 105 [.ptr 1 0,.ptr 2 0]),(6,.d (.int .i64 z1)),(7,.d (.int .i64 z2))] [(0,some (.row 52 z3)),(1,some (.box [.fn 102 [.cel [.int .i64 z4] 0,.cel [.bool z5] 0]])),(2,some (.box [.fn 103 [.cel [.int .i64 z6] 0]]))])) | _=>fun _=>none
def ynvy:SSt:=mkSh 63 3 [(0,.own 52 0),(1,.int .i64),(2,.fn 105 [.ptr 1 0,.ptr 2 0]),(6,.int .i64)] [(0,.row 52),(1,.box [.fn 102 [.cel [.int .i64] 0,.cel [.bool] 0]]),(2,.box [.fn 103 [.cel [.int .i64] 0]])]
def ygXy (g:C_z0z) (n:Nat):LPT A:=fun ps=>match ps with | [.d (.int .i64 p1),.d (.int .i64 p2),.d (.sl 52 p3),.d (.int .i64 p4),.d (.bool p5),.d (.int .i64 p6)]=>fun K=>z0z_L7 g n p1 p2 p3 p4 p5 p6 (fun z0 z1 z2 z3=>K (.exit 2) (mkSt 63 3 [(0,.own 52 0),(2,.fn 105 [.ptr 1 0,.ptr 2 0])] [(0,some (.row 52 z0)),(1,some (.box [.fn 102 [.cel [.int .i64 z1] 0,.cel [.bool z2] 0]])),(2,some (.box [.fn 103 [.cel [.int .i64 z3] 0]]))])) | _=>fun _=>none
noncomputable def E_z0z (g:C_z0z):Env A:=mkE [(128,ysMy g.z2z)] [] [(2,⟨[0,1,2,6,7,8],[],[0,1,2],[],[],[],[]⟩),(9,⟨[0,1,2,6,7,8],[],[0,1,2],[],[],[],[]⟩),(7,⟨[0,1,2,6],[],[0,1,2],[],[],[],[]⟩)] [(2,⟨[0,1,2,6,7],[],[0,1,2],[],[],[],[]⟩),(9,⟨[0,1,2,6,7],[],[0,1,2],[],[],[],[]⟩),(7,⟨[0,2],[],[0,1,2],[],[],[],[]⟩)] [(2,yaey ynuy (yhay g g.N)),(9,yaey ym6y (yhly g g.N)),(7,yaey ynvy (ygXy g g.N))] [] [] [] [(128,0)] [0,2]
theorem ywYy [Fuel]:yagy (E_z0z I_z0z).C:=ct_of (P:=Tryz.prog) (T:=T) (.cons yGhy .nil) (by kernel_rfl)
noncomputable def yvjy:Code:=sub [1,1,0,0,0] ya8y
theorem yH2y (g:C_z0z) (n:Nat):yahy (E_z0z g) g.N yvjy ynuy (yhay g) n:=by intro ps; unfold yhay; split; exact .inr fun R K=>(by kernel_rfl); exact .inl fun R K=>rfl
theorem yGUy [Fuel]:yacy (E_z0z I_z0z) NN yvjy:=yaby ynuy (yhay I_z0z) (by kernel_rfl) ywYy (cuts0 (fun _=>rfl) (by kernel_rfl)) (fun ps R K=>by unfold yhay; split <;> (try unfold z0z_L2) <;> rfl) (yH2y I_z0z)
noncomputable def yvEy:Code:=sub [1,1,1,1,0,0,1,0,1,0,0,0] ya8y
theorem yHNy (g:C_z0z) (n:Nat):yahy (E_z0z g) g.N yvEy ym6y (yhly g) n:=by intro ps; unfold yhly; split; exact .inr fun R K=>(by kernel_rfl); exact .inl fun R K=>rfl
theorem yvSy [Fuel]:yacy (E_z0z I_z0z) NN yvEy:=yaby ym6y (yhly I_z0z) (by kernel_rfl) ywYy (cuts0 (fun _=>rfl) (by kernel_rfl)) (fun ps R K=>by unfold yhly; split <;> (try unfold z0z_L9) <;> rfl) (yHNy I_z0z)
noncomputable def yvZy:Code:=sub [1,1,1,1,0,0] ya8y
theorem yIBy (g:C_z0z) (n:Nat):yahy (E_z0z g) g.N yvZy ynvy (ygXy g) n:=by intro ps; unfold ygXy; split; exact .inr fun R K=>(by kernel_rfl); exact .inl fun R K=>rfl
theorem yEQy [Fuel]:yacy (E_z0z I_z0z) NN yvZy:=yaby ynvy (ygXy I_z0z) (by kernel_rfl) ywYy (cutsL (fun _=>rfl) (.cons yvSy .nil) (by kernel_rfl)) (fun ps R K=>by unfold ygXy; split <;> (try unfold z0z_L7) <;> rfl) (yIBy I_z0z)
theorem yOJy (g:C_z0z):Same (yrty (@z0z_ g)) (abody (E_z0z g) Tryz.f89 ya8y 3 [0,1,2] [] g.N):=by intro args; unfold yrty; split; exact .inr fun R k=>(by kernel_rfl); exact .inl fun R k=>rfl
theorem yPyy [Fuel]:Ok 89 (yrty (@z0z _)):=yaay std (.cons yGhy .nil) ⟨rfl,rfl,by kernel_rfl,rfl,rfl,rfl⟩ (yOJy I_z0z) (cutsL (fun _=>rfl) (.cons yGUy (.cons yvSy (.cons yEQy .nil))) (by kernel_rfl)) Tryz.func89 (by kernel_rfl) (by kernel_rfl)
abbrev yx0y:Type 1:=List G_Spot→Int→Bool→Int→{R:Type}→(List G_Spot→Int→Bool→Int→Option R)→Option R
structure C_z30z where
 N:Nat
 z0z:T_z0z
def z30z_ (g:C_z30z) (a1:List G_Spot) (a2:Int) (a3:Bool) (a4:Int) {R:Type} (k0:List G_Spot→Int→Bool→Int→Option R):Option R :=
 (g.z0z a1 (a1.length:Int) a2 a3 a4 (fun r5 r6 r7 r8=>k0 r5 r6 r7 r8))
noncomputable def yxey [Fuel]:C_z30z:=⟨NN,@z0z _⟩
noncomputable def z30z [Fuel]:yx0y:=@z30z_ yxey
def ypIy (g:yx0y):Spec A:=fun args=>match args with | [.arr 52 a1,.fn 105 [.box [.fn 102 [.cel [.int .i64 a2] 0,.cel [.bool a3] 0]],.box [.fn 103 [.cel [.int .i64 a4] 0]]]]=>fun k=>g a1 a2 a3 a4 (fun z0 z1 z2 z3=>k (.tup []) [.arr 52 z0,.fn 105 [.box [.fn 102 [.cel [.int .i64 z1] 0,.cel [.bool z2] 0]],.box [.fn 103 [.cel [.int .i64 z3] 0]]]]) | _=>fun _=>none
noncomputable def yPny (g:C_z30z):Env A:=mkE [(89,yrty g.z0z)] [] [] [] [] [] [] [] [(89,0)] [0,1]
theorem yOey (g:C_z30z):Same (ypIy (@z30z_ g)) (abody (yPny g) Tryz.f39 yjQy 3 [0,1,2] [] g.N):=by intro args; unfold ypIy; split; exact .inr fun R k=>(by kernel_rfl); exact .inl fun R k=>rfl
theorem yCTy [Fuel]:Ok 39 (ypIy (@z30z _)):=yaay std (.cons yPyy .nil) ⟨rfl,rfl,by kernel_rfl,rfl,rfl,rfl⟩ (yOey yxey) (cuts0 (fun _=>rfl) (by kernel_rfl)) Tryz.func39 (by kernel_rfl) (by kernel_rfl)
abbrev ylZy:Type 1:=List G_Spot→Int→Bool→{R:Type}→(List (List UInt8)→Option R)→Option R
structure C_band_way where
 N:Nat
 z30z:yx0y
 z90z:ysSy
def ycty (g:C_band_way):Nat→Int→Int→List G_Spot→List (List UInt8)→{R:Type}→(List (List UInt8)→Option R)→Option R
 | 0,_,_,_,_,_,_=>none
 | n + 1,v9,v10,v11,v12,_,e0=>(bif (decide (v10 < v9)) then (inr v11 v10 (at_ v11 v10 fun x14=>(bif (decide ((v12.length + [x14.f_Call].length) * 16≤yazy)) then ycty g n v9 (w64 (v10 + 1)) v11 (v12 ++ [x14.f_Call]) e0 else none))) else e0 v12)
def yuTy (g:C_band_way) (a1:List G_Spot) (a2:Int) (a3:Bool) {R:Type} (k0:List (List UInt8)→Option R):Option R :=
 (g.z90z a1 (fun r4=>(g.z30z r4 a2 a3 a2 (fun r5 r6 r7 r8=>(ycty g g.N (r5.length:Int) 0 r5 [] (fun e15=>k0 e15))))))
noncomputable def yc4y [Fuel]:C_band_way:=⟨NN,@z30z _,@z90z _⟩
noncomputable def band_way [Fuel]:ylZy:=@yuTy yc4y
def ygDy (g:ylZy):Spec A:=fun args=>match args with | [.d (.sl 52 a1),.d (.int .i64 a2),.d (.bool a3)]=>fun k=>g a1 a2 a3 (fun z0=>k (.arr 9 z0) [.undef,.undef,.undef]) | _=>fun _=>none
def yggy:SSt:=mkSh 33 9 [(10,.own 9 5),(20,.own 52 4),(21,.int .i64),(22,.int .i64)] [(4,.row 52),(5,.row 9)]
def ycSy (g:C_band_way) (n:Nat):LPT A:=fun ps=>match ps with | [.d (.int .i64 p1),.d (.int .i64 p2),.d (.sl 52 p3),.d (.sl 9 p4)]=>fun K=>ycty g n p1 p2 p3 p4 (fun z0=>K (.exit 0) (mkSt 33 9 [(10,.own 9 5)] [(5,some (.row 9 z0))])) | _=>fun _=>none
noncomputable def yBHy:Code:=(Tryz.f55.body).getD .skip
noncomputable def yhIy (g:C_band_way):Env A:=mkE [(39,ypIy g.z30z),(104,yh9y g.z90z)] [(4,[0]),(5,[1]),(7,[2]),(8,[3]),(12,[6]),(16,[4]),(29,[7]),(30,[8])] [(7,⟨[10,20,21,22],[(10,9,5)],[4],[],[],[],[]⟩)] [(7,⟨[10],[],[5],[],[],[],[]⟩)] [(7,yaey yggy (ycSy g g.N))] [(4,⟨[7,8,9],[],[2,3,4],[],[],[],[0,1]⟩)] [] [] [(39,0)] []
theorem yA1y [Fuel]:yagy (yhIy yc4y).C:=ct_of (P:=Tryz.prog) (T:=T) (.cons yCTy (.cons ypmy .nil)) (by kernel_rfl)
noncomputable def ykmy:Code:=sub [1,1,1,1,1,1,0,1,0,0] yBHy
theorem yv5y (g:C_band_way) (n:Nat):yahy (yhIy g) g.N ykmy yggy (ycSy g) n:=by intro ps; unfold ycSy; split; exact .inr fun R K=>(by kernel_rfl); exact .inl fun R K=>rfl
theorem yuky [Fuel]:yacy (yhIy yc4y) NN ykmy:=yaby yggy (ycSy yc4y) (by kernel_rfl) yA1y (cuts0 (fun _=>rfl) (by kernel_rfl)) (fun ps R K=>by unfold ycSy; split <;> (try unfold ycty) <;> rfl) (yv5y yc4y)
theorem yARy (g:C_band_way):Same (ygDy (@yuTy g)) (abody (yhIy g) Tryz.f55 yBHy 9 [] [.arr 9] g.N):=by intro args; unfold ygDy; split; exact .inr fun R k=>(by kernel_rfl); exact .inl fun R k=>rfl
theorem yqdy [Fuel]:Ok 55 (ygDy (@band_way _)):=yaay std (.cons yCTy (.cons ypmy .nil)) ⟨rfl,rfl,by kernel_rfl,rfl,rfl,rfl⟩ (yARy yc4y) (cutsL (fun _=>rfl) (.cons yuky .nil) (by kernel_rfl)) Tryz.func55 (by kernel_rfl) (by kernel_rfl)
abbrev yicy:Type 1:=List G_Band→List G_Spot→Int→Int→Int→{R:Type}→(List (List UInt8)→Int→Int→Option R)→Option R
structure C_band_Sweep where
 N:Nat
 z86z:ysXy
 z87z:yr5y
 band_heard:yeVy
 band_way:ylZy
def ybvy (g:C_band_Sweep):Nat→Int→Int→Int→Int→Int→List G_Spot→{R:Type}→(Int→Int→Int→List G_Spot→Option R)→Option R
 | 0,_,_,_,_,_,_,_,_=>none
 | n + 1,v10,v11,v12,v13,v14,v15,_,e0=>(bif (decide (v14 < v13)) then (inr v15 v14 (at_ v15 v14 fun x17=>ybvy g n v10 (if (w64 (v10 - x17.f_Hertz)) > v11 then (w64 (v10 - x17.f_Hertz)) else v11) (if (w64 (x17.f_Hertz - v10)) > v12 then (w64 (x17.f_Hertz - v10)) else v12) v13 (w64 (v14 + 1)) v15 e0)) else e0 v10 v11 v12 v15)
def yjBy (g:C_band_Sweep) (a1:List G_Band) (a2:List G_Spot) (a3 a4 a5:Int) {R:Type} (k0:List (List UInt8)→Int→Int→Option R):Option R :=
 (g.z86z a1 a2 (fun r6=>(bif (r6 != 0) then k0 [] 0 r6 else (g.z87z a3 a4 a5 (fun r7=>(bif (r7 != 0) then k0 [] 0 r7 else (g.band_heard a1 a2 a3 a4 (fun r8 r9=>(ybvy g g.N a5 0 0 (r8.length:Int) 0 r8 (fun e18 e19 e20 e21=>(bif (e20 == 0) then (bif (e19 == 0) then (bif (decide (e19≤e20)) then (g.band_way e21 e18 true (fun r22=>k0 r22 e19 0)) else (g.band_way e21 e18 false (fun r23=>k0 r23 e20 0))) else (bif (decide (e19≤(w64 ((w64 (2 * e20)) + e19)))) then (g.band_way e21 e18 true (fun r24=>k0 r24 e19 0)) else (g.band_way e21 e18 false (fun r25=>k0 r25 (w64 ((w64 (2 * e20)) + e19)) 0)))) else (bif (e19 == 0) then (bif (decide ((w64 ((w64 (2 * e19)) + e20))≤e20)) then (g.band_way e21 e18 true (fun r26=>k0 r26 (w64 ((w64 (2 * e19)) + e20)) 0)) else (g.band_way e21 e18 false (fun r27=>k0 r27 e20 0))) else (bif (decide ((w64 ((w64 (2 * e19)) + e20))≤(w64 ((w64 (2 * e20)) + e19)))) then (g.band_way e21 e18 true (fun r28=>k0 r28 (w64 ((w64 (2 * e19)) + e20)) 0)) else (g.band_way e21 e18 false (fun r29=>k0 r29 (w64 ((w64 (2 * e20)) + e19)) 0)))))))))))))))
noncomputable def ybky [Fuel]:C_band_Sweep:=⟨NN,@z86z _,@z87z _,@band_heard _,@band_way _⟩
noncomputable def band_Sweep [Fuel]:yicy:=@yjBy ybky
def yeey (g:yicy):Spec A:=fun args=>match args with | [.d (.sl 69 a1),.d (.sl 52 a2),.d (.int .i64 a3),.d (.int .i64 a4),.d (.int .i64 a5)]=>fun k=>g a1 a2 a3 a4 a5 (fun z0 z1 z2=>k (.tup [.arr 9 z0,.d (.int .i64 z1),.d (.int .i64 z2)]) [.undef,.undef,.undef,.undef,.undef]) | _=>fun _=>none
def ydWy:SSt:=mkSh 88 5 [(4,.int .i64),(15,.own 52 0),(17,.int .i64),(18,.int .i64),(44,.own 52 0),(45,.int .i64),(46,.int .i64)] [(0,.row 52)]
def ybXy (g:C_band_Sweep) (n:Nat):LPT A:=fun ps=>match ps with | [.d (.int .i64 p1),.d (.int .i64 p2),.d (.int .i64 p3),.d (.int .i64 p4),.d (.int .i64 p5),.d (.sl 52 p6)]=>fun K=>ybvy g n p1 p2 p3 p4 p5 p6 (fun z0 z1 z2 z3=>K (.exit 0) (mkSt 88 5 [(4,.d (.int .i64 z0)),(15,.own 52 0),(17,.d (.int .i64 z1)),(18,.d (.int .i64 z2))] [(0,some (.row 52 z3))])) | _=>fun _=>none
noncomputable def yCIy:Code:=(Tryz.f12.body).getD .skip
noncomputable def yfgy (g:C_band_Sweep):Env A:=mkE [(47,yj4y g.z86z),(50,yjOy g.z87z),(52,ybdy g.band_heard),(55,ygDy g.band_way)] [(20,[2]),(41,[0,1]),(82,[3]),(86,[4])] [(10,⟨[4,15,17,18,44,45,46],[],[0],[],[],[],[]⟩)] [(10,⟨[4,15,17,18],[],[0],[],[],[],[]⟩)] [(10,yaey ydWy (ybXy g g.N))] [] [] [] [] []
theorem ywby [Fuel]:yagy (yfgy ybky).C:=ct_of (P:=Tryz.prog) (T:=T) (.cons yoxy (.cons yowy (.cons yepy (.cons yqdy .nil)))) (by kernel_rfl)
noncomputable def yhFy:Code:=sub [1,1,1,1,1,0,1,0,0] yCIy
theorem yrjy (g:C_band_Sweep) (n:Nat):yahy (yfgy g) g.N yhFy ydWy (ybXy g) n:=by intro ps; unfold ybXy; split; exact .inr fun R K=>(by kernel_rfl); exact .inl fun R K=>rfl
theorem ypZy [Fuel]:yacy (yfgy ybky) NN yhFy:=yaby ydWy (ybXy ybky) (by kernel_rfl) ywby (cuts0 (fun _=>rfl) (by kernel_rfl)) (fun ps R K=>by unfold ybXy; split <;> (try unfold ybvy) <;> rfl) (yrjy ybky)
theorem ywgy (g:C_band_Sweep):Same (yeey (@yjBy g)) (abody (yfgy g) Tryz.f12 yCIy 5 [] [.arr 9,.asis,.asis] g.N):=by intro args; unfold yeey; split; exact .inr fun R k=>(by kernel_rfl); exact .inl fun R k=>rfl
theorem ywGy [Fuel]:Ok 12 (yeey (@band_Sweep _)):=yaay std (.cons yoxy (.cons yowy (.cons yepy (.cons yqdy .nil)))) ⟨rfl,rfl,by kernel_rfl,rfl,rfl,rfl⟩ (ywgy ybky) (cutsL (fun _=>rfl) (.cons ypZy .nil) (by kernel_rfl)) Tryz.func12 (by kernel_rfl) (by kernel_rfl)
abbrev yg1y:Type 1:=Int→Int→Int→{R:Type}→(Bool→Option R)→Option R
def Q_in_ (g:Nat) (a1 a2 a3:Int) {R:Type} (k0:Bool→Option R):Option R :=
 (bif (decide (a2≤a1)) then k0 (decide (a1≤a3)) else k0 false)
noncomputable def Q_in [Fuel]:yg1y:=@Q_in_ NN
def ydTy (g:yg1y):Spec A:=fun args=>match args with | [.d (.int .i64 a1),.d (.int .i64 a2),.d (.int .i64 a3)]=>fun k=>g a1 a2 a3 (fun z0=>k (.d (.bool z0)) [.undef,.undef,.undef]) | _=>fun _=>none
noncomputable def yOdy:Code:=(Tryz.f57.body).getD .skip
noncomputable def yPby (g:Nat):Env A:=mkE [] [] [] [] [] [] [] [] [] []
theorem yOjy (g:Nat):Same (ydTy (@Q_in_ g)) (abody (yPby g) Tryz.f57 yOdy 0 [] [.asis] g):=by intro args; unfold ydTy; split; exact .inr fun R k=>(by kernel_rfl); exact .inl fun R k=>rfl
theorem yeDy [Fuel]:Ok 57 (ydTy (@Q_in _)):=yaay std .nil ⟨rfl,rfl,by kernel_rfl,rfl,rfl,rfl⟩ (yOjy NN) (cuts0 (fun _=>rfl) (by kernel_rfl)) Tryz.func57 (by kernel_rfl) (by kernel_rfl)
end Go.Am
