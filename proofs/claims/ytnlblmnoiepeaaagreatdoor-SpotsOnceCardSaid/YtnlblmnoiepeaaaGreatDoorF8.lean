/- The functions of the program as Lean functions, each shown to be what the code computes, part 8. No condition: lemmas for the claim. -/
import Derived.Test.YtnlblmnoiepeaaaGreatDoorF0
import Derived.Test.YtnlblmnoiepeaaaGreatDoorFSh
import Derived.Test.YtnlblmnoiepeaaaGreatDoorF4
import Derived.Test.YtnlblmnoiepeaaaGreatDoorF5
set_option linter.unusedVariables false
set_option maxRecDepth 100000
namespace Go.Am
open Go Go.Proofs
abbrev yxPy:Type 1:=Int→Int→List Int→{R:Type}→(Int→List Int→Option R)→Option R
def z87z_ (g:Nat) (a1 a2:Int) (a3:List Int) {R:Type} (k0:Int→List Int→Option R):Option R :=
 (inr a3 a2 (at_ a3 a2 fun x4=>(inr a3 a1 (at_ a3 a1 fun x5=>k0 (w64 (x4 - x5)) a3))))
noncomputable def z87z [Fuel]:yxPy:=@z87z_ NN
def ynKy (g:yxPy):Spec A:=fun args=>match args with | [.d (.int .i64 a1),.d (.int .i64 a2),.box [.arr 3 a3]]=>fun k=>g a1 a2 a3 (fun z0 z1=>k (.d (.int .i64 z0)) [.undef,.undef,.box [.arr 3 z1]]) | _=>fun _=>none
noncomputable def yLby:Code:=(Tryz.f50.body).getD .skip
noncomputable def yNPy (g:Nat):Env A:=mkE [] [] [] [] [] [] [] [] [] [2]
theorem yJXy (g:Nat):Same (ynKy (@z87z_ g)) (abody (yNPy g) Tryz.f50 yLby 2 [0,1] [.asis] g):=by intro args; unfold ynKy; split; exact .inr fun R k=>(by kernel_rfl); exact .inl fun R k=>rfl
theorem yA7y [Fuel]:Ok 50 (ynKy (@z87z _)):=yaay std .nil ⟨rfl,rfl,by kernel_rfl,rfl,rfl,rfl⟩ (yJXy NN) (cuts0 (fun _=>rfl) (by kernel_rfl)) Tryz.func50 (by kernel_rfl) (by kernel_rfl)
abbrev T_z6z:Type 1:=List Int→Int→Int→List Int→{R:Type}→(List Int→List Int→Option R)→Option R
structure C_z6z where
 N:Nat
 z87z:yxPy
def z6z_L4 (g:C_z6z):Nat→Int→Int→Int→Int→List Int→List Int→{R:Type}→(Int→Int→Int→List Int→List Int→Option R)→(Int→Int→Int→List Int→List Int→Option R)→Option R
 | 0,_,_,_,_,_,_,_,_,_=>none
 | n + 1,v42,v43,v44,v45,v46,v47,_,e0,e1=>(bif (decide (v45 > v42)) then (inr v46 v45 (at_ v46 v45 fun x56=>(inr v46 (w64 (v45 - 1)) (at_ v46 (w64 (v45 - 1)) fun x57=>(g.z87z x56 x57 v47 (fun r58 r59=>(bif (decide (r58 < 0)) then (inr v46 (w64 (v45 - 1)) (at_ v46 (w64 (v45 - 1)) fun x60=>(inr v46 v45 (at_ v46 v45 fun x61=>(inr v46 v45 (at_ v46 v45 fun x62=>(inr (set_ v46 v45 x60) (w64 (v45 - 1)) (at_ (set_ v46 v45 x60) (w64 (v45 - 1)) fun x63=>z6z_L4 g n v42 v43 v44 (w64 (v45 - 1)) (set_ (set_ v46 v45 x60) (w64 (v45 - 1)) x61) r59 e0 e1)))))))) else e0 v42 v43 v44 v46 r59))))))) else e1 v42 v43 v44 v46 v47)
def z6z_L1 (g:C_z6z):Nat→Int→Int→Int→List Int→List Int→{R:Type}→(List Int→List Int→Option R)→Option R
 | 0,_,_,_,_,_,_,_=>none
 | n + 1,v5,v6,v7,v8,v9,_,e0=>(bif (decide (v7 < v6)) then (z6z_L4 g g.N v5 v6 v7 v7 v8 v9 (fun e64 e65 e66 e67 e68=>z6z_L1 g n e64 e65 (w64 (e66 + 1)) e67 e68 e0) (fun e69 e70 e71 e72 e73=>z6z_L1 g n e69 e70 (w64 (e71 + 1)) e72 e73 e0)) else e0 v8 v9)
def z6z_ (g:C_z6z) (a1:List Int) (a2 a3:Int) (a4:List Int) {R:Type} (k0:List Int→List Int→Option R):Option R :=
 (z6z_L1 g g.N a2 a3 (w64 (a2 + 1)) a1 a4 (fun e74 e75=>k0 e74 e75))
noncomputable def I_z6z [Fuel]:C_z6z:=⟨NN,@z87z _⟩
noncomputable def z6z [Fuel]:T_z6z:=@z6z_ I_z6z
def yrNy (g:T_z6z):Spec A:=fun args=>match args with | [.arr 3 a1,.d (.int .i64 a2),.d (.int .i64 a3),.fn 50 [.box [.arr 3 a4]]]=>fun k=>g a1 a2 a3 a4 (fun z0 z1=>k (.tup []) [.arr 3 z0,.undef,.undef,.fn 50 [.box [.arr 3 z1]]]) | _=>fun _=>none
def ymNy:SSt:=mkSh 53 6 [(0,.own 3 0),(1,.int .i64),(2,.int .i64),(3,.fn 50 [.ptr 1 0]),(8,.int .i64),(9,.int .i64)] [(0,.row 3),(1,.box [.own 3 4]),(4,.row 3)]
def yhny (g:C_z6z) (n:Nat):LPT A:=fun ps=>match ps with | [.d (.int .i64 p1),.d (.int .i64 p2),.d (.int .i64 p3),.d (.int .i64 p4),.d (.sl 3 p5),.d (.sl 3 p6)]=>fun K=>z6z_L4 g n p1 p2 p3 p4 p5 p6 (fun z0 z1 z2 z3 z4=>K (.exit 2) (mkSt 53 6 [(0,.own 3 0),(1,.d (.int .i64 z0)),(2,.d (.int .i64 z1)),(3,.fn 50 [.ptr 1 0]),(8,.d (.int .i64 z2))] [(0,some (.row 3 z3)),(1,some (.box [.own 3 5])),(4,some (.gone (0,3))),(5,some (.row 3 z4))])) (fun z0 z1 z2 z3 z4=>K (.exit 2) (mkSt 53 6 [(0,.own 3 0),(1,.d (.int .i64 z0)),(2,.d (.int .i64 z1)),(3,.fn 50 [.ptr 1 0]),(8,.d (.int .i64 z2))] [(0,some (.row 3 z3)),(1,some (.box [.own 3 4])),(4,some (.row 3 z4))])) | _=>fun _=>none
def ynjy:SSt:=mkSh 53 6 [(0,.own 3 0),(1,.int .i64),(2,.int .i64),(3,.fn 50 [.ptr 1 0]),(8,.int .i64)] [(0,.row 3),(1,.box [.own 3 3]),(3,.row 3)]
def yhoy (g:C_z6z) (n:Nat):LPT A:=fun ps=>match ps with | [.d (.int .i64 p1),.d (.int .i64 p2),.d (.int .i64 p3),.d (.sl 3 p4),.d (.sl 3 p5)]=>fun K=>z6z_L1 g n p1 p2 p3 p4 p5 (fun z0 z1=>K (.exit 0) (mkSt 53 6 [(0,.own 3 0),(3,.fn 50 [.ptr 1 0])] [(0,some (.row 3 z0)),(1,some (.box [.own 3 3])),(3,some (.row 3 z1))])) | _=>fun _=>none
noncomputable def yqoy:Code:=(Tryz.f139.body).getD .skip
noncomputable def E_z6z (g:C_z6z):Env A:=mkE [(50,ynKy g.z87z)] [(32,[5])] [(4,⟨[0,1,2,3,8,9],[],[0,1],[(1,0,3,4)],[],[],[]⟩),(1,⟨[0,1,2,3,8],[],[0,1],[(1,0,3,3)],[],[],[]⟩)] [(4,⟨[0,1,2,3,8],[],[0,1,4,5],[],[],[],[]⟩),(1,⟨[0,3],[],[0,1,3],[],[],[],[]⟩)] [(4,yafy ymNy (yhny g g.N)),(1,yafy ynjy (yhoy g g.N))] [] [] [] [] [0,3]
theorem yFuy [Fuel]:yahy (E_z6z I_z6z).C:=ct_of (P:=Tryz.prog) (T:=T) (.cons yA7y .nil) (by kernel_rfl)
noncomputable def ytUy:Code:=sub [1,0,0,1,0,0,1,0,0] yqoy
theorem yGCy (g:C_z6z) (n:Nat):yaky (E_z6z g) g.N ytUy ymNy (yhny g) n:=by intro ps; unfold yhny; split; exact .inr fun R K=>(by kernel_rfl); exact .inl fun R K=>rfl
theorem yuqy [Fuel]:yacy (E_z6z I_z6z) NN ytUy:=yaey ymNy (yhny I_z6z) (by kernel_rfl) yFuy (cuts0 (fun _=>rfl) (by kernel_rfl)) (fun ps R K=>by unfold yhny; split <;> (try unfold z6z_L4) <;> rfl) (yGCy I_z6z)
noncomputable def yuMy:Code:=sub [1,0,0] yqoy
theorem yHpy (g:C_z6z) (n:Nat):yaky (E_z6z g) g.N yuMy ynjy (yhoy g) n:=by intro ps; unfold yhoy; split; exact .inr fun R K=>(by kernel_rfl); exact .inl fun R K=>rfl
theorem yFty [Fuel]:yacy (E_z6z I_z6z) NN yuMy:=yaey ynjy (yhoy I_z6z) (by kernel_rfl) yFuy (cutsL (fun _=>rfl) (.cons yuqy .nil) (by kernel_rfl)) (fun ps R K=>by unfold yhoy; split <;> (try unfold z6z_L1) <;> rfl) (yHpy I_z6z)
theorem yNRy (g:C_z6z):Same (yrNy (@z6z_ g)) (abody (E_z6z g) Tryz.f139 yqoy 6 [0,1,2] [] g.N):=by intro args; unfold yrNy; split; exact .inr fun R k=>(by kernel_rfl); exact .inl fun R k=>rfl
theorem yEny [Fuel]:Ok 139 (yrNy (@z6z _)):=yaay std (.cons yA7y .nil) ⟨rfl,rfl,by kernel_rfl,rfl,rfl,rfl⟩ (yNRy I_z6z) (cutsL (fun _=>rfl) (.cons yuqy (.cons yFty .nil)) (by kernel_rfl)) Tryz.func139 (by kernel_rfl) (by kernel_rfl)
abbrev T_z4z:Type 1:=List Int→Int→List Int→{R:Type}→(List Int→List Int→Option R)→Option R
structure C_z4z where
 N:Nat
 z6z:T_z6z
def z4z_L2 (g:C_z4z):Nat→Int→Int→Int→Int→List Int→List Int→{R:Type}→(Int→Int→Int→List Int→List Int→Option R)→Option R
 | 0,_,_,_,_,_,_,_,_=>none
 | n + 1,v4,v5,v6,v7,v8,v9,_,e0=>(bif (decide (v7≤v4)) then (g.z6z v8 v6 v7 v9 (fun r12 r13=>z4z_L2 g n v4 v5 v7 (w64 (v7 + v5)) r12 r13 e0)) else e0 v4 v5 v6 v8 v9)
def z4z_L9 (g:C_z4z):Nat→Int→Int→Int→Int→List Int→List Int→{R:Type}→(Int→Int→Int→List Int→List Int→Option R)→Option R
 | 0,_,_,_,_,_,_,_,_=>none
 | n + 1,v36,v37,v38,v39,v40,v41,_,e0=>(bif (decide (v39≤v36)) then none else e0 v36 v37 v38 v40 v41)
def z4z_L7 (g:C_z4z):Nat→Int→Int→List Int→List Int→{R:Type}→(List Int→List Int→Option R)→Option R
 | 0,_,_,_,_,_,_=>none
 | n + 1,v21,v22,v23,v24,_,e0=>(bif (decide (v22 < v21)) then (z4z_L9 g g.N v21 v22 0 (w64 (2 * v22)) v23 v24 (fun e42 e43 e44 e45 e46=>(bif (decide ((w64 (e44 + e43)) < e42)) then none else z4z_L7 g n e42 (w64 (e43 * 2)) e45 e46 e0))) else e0 v23 v24)
def z4z_ (g:C_z4z) (a1:List Int) (a2:Int) (a3:List Int) {R:Type} (k0:List Int→List Int→Option R):Option R :=
 (z4z_L2 g g.N a2 20 0 20 a1 a3 (fun e14 e15 e16 e17 e18=>(g.z6z e17 e16 e14 e18 (fun r19 r20=>(z4z_L7 g g.N e14 e15 r19 r20 (fun e47 e48=>k0 e47 e48))))))
noncomputable def I_z4z [Fuel]:C_z4z:=⟨NN,@z6z _⟩
noncomputable def z4z [Fuel]:T_z4z:=@z4z_ I_z4z
def ysoy (g:T_z4z):Spec A:=fun args=>match args with | [.arr 3 a1,.d (.int .i64 a2),.fn 50 [.box [.arr 3 a3]]]=>fun k=>g a1 a2 a3 (fun z0 z1=>k (.tup []) [.arr 3 z0,.undef,.fn 50 [.box [.arr 3 z1]]]) | _=>fun _=>none
def ym1y:SSt:=mkSh 63 8 [(0,.own 3 0),(1,.int .i64),(2,.fn 50 [.ptr 1 0]),(6,.int .i64),(7,.int .i64),(8,.int .i64)] [(0,.row 3),(1,.box [.own 3 3]),(3,.row 3)]
def yhmy (g:C_z4z) (n:Nat):LPT A:=fun ps=>match ps with | [.d (.int .i64 p1),.d (.int .i64 p2),.d (.int .i64 p3),.d (.int .i64 p4),.d (.sl 3 p5),.d (.sl 3 p6)]=>fun K=>z4z_L2 g n p1 p2 p3 p4 p5 p6 (fun z0 z1 z2 z3 z4=>K (.exit 0) (mkSt 63 8 [(0,.own 3 0),(1,.d (.int .i64 z0)),(2,.fn 50 [.ptr 1 0]),(6,.d (.int .i64 z1)),(7,.d (.int .i64 z2))] [(0,some (.row 3 z3)),(1,some (.box [.own 3 3])),(3,some (.row 3 z4))])) | _=>fun _=>none
def ynGy:SSt:=mkSh 63 8 [(0,.own 3 0),(1,.int .i64),(2,.fn 50 [.ptr 1 0]),(6,.int .i64),(7,.int .i64),(8,.int .i64)] [(0,.row 3),(1,.box [.own 3 7]),(7,.row 3)]
def yg9y (g:C_z4z) (n:Nat):LPT A:=fun ps=>match ps with | [.d (.int .i64 p1),.d (.int .i64 p2),.d (.int .i64 p3),.d (.int .i64 p4),.d (.sl 3 p5),.d (.sl 3 p6)]=>fun K=>z4z_L9 g n p1 p2 p3 p4 p5 p6 (fun z0 z1 z2 z3 z4=>K (.exit 4) (mkSt 63 8 [(0,.own 3 0),(1,.d (.int .i64 z0)),(2,.fn 50 [.ptr 1 0]),(6,.d (.int .i64 z1)),(7,.d (.int .i64 z2))] [(0,some (.row 3 z3)),(1,some (.box [.own 3 7])),(7,some (.row 3 z4))])) | _=>fun _=>none
def ymLy:SSt:=mkSh 63 8 [(0,.own 3 0),(1,.int .i64),(2,.fn 50 [.ptr 1 0]),(6,.int .i64)] [(0,.row 3),(1,.box [.own 3 6]),(6,.row 3)]
def yg5y (g:C_z4z) (n:Nat):LPT A:=fun ps=>match ps with | [.d (.int .i64 p1),.d (.int .i64 p2),.d (.sl 3 p3),.d (.sl 3 p4)]=>fun K=>z4z_L7 g n p1 p2 p3 p4 (fun z0 z1=>K (.exit 2) (mkSt 63 8 [(0,.own 3 0),(2,.fn 50 [.ptr 1 0])] [(0,some (.row 3 z0)),(1,some (.box [.own 3 6])),(6,some (.row 3 z1))])) | _=>fun _=>none
noncomputable def yoKy:Code:=(Tryz.f93.body).getD .skip
noncomputable def E_z4z (g:C_z4z):Env A:=mkE [(139,yrNy g.z6z)] [(18,[4]),(27,[5])] [(2,⟨[0,1,2,6,7,8],[],[0,1],[(1,0,3,3)],[],[],[]⟩),(9,⟨[0,1,2,6,7,8],[],[0,1],[(1,0,3,7)],[],[],[]⟩),(7,⟨[0,1,2,6],[],[0,1],[(1,0,3,6)],[],[],[]⟩)] [(2,⟨[0,1,2,6,7],[],[0,1,3],[],[],[],[]⟩),(9,⟨[0,1,2,6,7],[],[0,1,7],[],[],[],[]⟩),(7,⟨[0,2],[],[0,1,6],[],[],[],[]⟩)] [(2,yafy ym1y (yhmy g g.N)),(9,yafy ynGy (yg9y g g.N)),(7,yafy ymLy (yg5y g g.N))] [] [] [] [(139,0)] [0,2]
theorem yvWy [Fuel]:yahy (E_z4z I_z4z).C:=ct_of (P:=Tryz.prog) (T:=T) (.cons yEny .nil) (by kernel_rfl)
noncomputable def yuPy:Code:=sub [1,1,0,0,0] yoKy
theorem yIzy (g:C_z4z) (n:Nat):yaky (E_z4z g) g.N yuPy ym1y (yhmy g) n:=by intro ps; unfold yhmy; split; exact .inr fun R K=>(by kernel_rfl); exact .inl fun R K=>rfl
theorem yFly [Fuel]:yacy (E_z4z I_z4z) NN yuPy:=yaey ym1y (yhmy I_z4z) (by kernel_rfl) yvWy (cuts0 (fun _=>rfl) (by kernel_rfl)) (fun ps R K=>by unfold yhmy; split <;> (try unfold z4z_L2) <;> rfl) (yIzy I_z4z)
noncomputable def yuNy:Code:=sub [1,1,1,1,0,0,1,0,1,0,0,0] yoKy
theorem yHmy (g:C_z4z) (n:Nat):yaky (E_z4z g) g.N yuNy ynGy (yg9y g) n:=by intro ps; unfold yg9y; split; exact .inr fun R K=>(by kernel_rfl); exact .inl fun R K=>rfl
theorem yudy [Fuel]:yacy (E_z4z I_z4z) NN yuNy:=yaey ynGy (yg9y I_z4z) (by kernel_rfl) yvWy (cuts0 (fun _=>rfl) (by kernel_rfl)) (fun ps R K=>by unfold yg9y; split <;> (try unfold z4z_L9) <;> rfl) (yHmy I_z4z)
noncomputable def yuSy:Code:=sub [1,1,1,1,0,0] yoKy
theorem yG3y (g:C_z4z) (n:Nat):yaky (E_z4z g) g.N yuSy ymLy (yg5y g) n:=by intro ps; unfold yg5y; split; exact .inr fun R K=>(by kernel_rfl); exact .inl fun R K=>rfl
theorem yD7y [Fuel]:yacy (E_z4z I_z4z) NN yuSy:=yaey ymLy (yg5y I_z4z) (by kernel_rfl) yvWy (cutsL (fun _=>rfl) (.cons yudy .nil) (by kernel_rfl)) (fun ps R K=>by unfold yg5y; split <;> (try unfold z4z_L7) <;> rfl) (yG3y I_z4z)
theorem yOHy (g:C_z4z):Same (ysoy (@z4z_ g)) (abody (E_z4z g) Tryz.f93 yoKy 8 [0,1,2] [] g.N):=by intro args; unfold ysoy; split; exact .inr fun R k=>(by kernel_rfl); exact .inl fun R k=>rfl
theorem yNOy [Fuel]:Ok 93 (ysoy (@z4z _)):=yaay std (.cons yEny .nil) ⟨rfl,rfl,by kernel_rfl,rfl,rfl,rfl⟩ (yOHy I_z4z) (cutsL (fun _=>rfl) (.cons yFly (.cons yudy (.cons yD7y .nil))) (by kernel_rfl)) Tryz.func93 (by kernel_rfl) (by kernel_rfl)
abbrev yyYy:Type 1:=List Int→List Int→{R:Type}→(List Int→List Int→Option R)→Option R
structure C_z26z where
 N:Nat
 z4z:T_z4z
def z26z_ (g:C_z26z) (a1 a2:List Int) {R:Type} (k0:List Int→List Int→Option R):Option R :=
 (g.z4z a1 (a1.length:Int) a2 (fun r3 r4=>k0 r3 r4))
noncomputable def yv0y [Fuel]:C_z26z:=⟨NN,@z4z _⟩
noncomputable def z26z [Fuel]:yyYy:=@z26z_ yv0y
def yn3y (g:yyYy):Spec A:=fun args=>match args with | [.arr 3 a1,.fn 50 [.box [.arr 3 a2]]]=>fun k=>g a1 a2 (fun z0 z1=>k (.tup []) [.arr 3 z0,.fn 50 [.box [.arr 3 z1]]]) | _=>fun _=>none
noncomputable def yLay:Code:=(Tryz.f49.body).getD .skip
noncomputable def yNQy (g:C_z26z):Env A:=mkE [(93,ysoy g.z4z)] [(8,[3])] [] [] [] [] [] [] [(93,0)] [0,1]
theorem yIMy (g:C_z26z):Same (yn3y (@z26z_ g)) (abody (yNQy g) Tryz.f49 yLay 4 [0,1,2] [] g.N):=by intro args; unfold yn3y; split; exact .inr fun R k=>(by kernel_rfl); exact .inl fun R k=>rfl
theorem yACy [Fuel]:Ok 49 (yn3y (@z26z _)):=yaay std (.cons yNOy .nil) ⟨rfl,rfl,by kernel_rfl,rfl,rfl,rfl⟩ (yIMy yv0y) (cuts0 (fun _=>rfl) (by kernel_rfl)) Tryz.func49 (by kernel_rfl) (by kernel_rfl)
abbrev ygmy:Type 1:=Int→{R:Type}→(List UInt8→Option R)→Option R
def strconv_Itoa [Fuel]:ygmy:=@yify
def yiVy (g:ygmy):Spec A:=yiqy g
theorem yiQy [Fuel]:Ok 51 (yiVy (@strconv_Itoa _)):=⟨ytmy (fun w h=>h) (fun n w h0 h1 ht=>Any.strconv_Itoa Tryz.laysM171 n h0 h1 w ht),yxSy,yaOy (fn:=Tryz.f51) Tryz.func51 (by kernel_rfl) (by kernel_rfl)⟩
abbrev T_z5z:Type 1:=List G_Band→List G_Spot→Int→Int→{R:Type}→(List G_Pair→Int→Option R)→Option R
structure C_z5z where
 N:Nat
 z57z:yjFy
 z56z:yjBy
 band_heard:ycJy
 z26z:yyYy
 strconv_Itoa:ygmy
def z5z_L11 (g:C_z5z):Nat→List G_Band→Int→Int→List Int→List Int→List Int→{R:Type}→(List G_Band→List Int→List Int→List Int→Option R)→Option R
 | 0,_,_,_,_,_,_,_,_=>none
 | n + 1,v9,v10,v11,v12,v13,v14,_,e0=>(bif (decide (v11 < v10)) then (bif (decide ((v13.length + [v11].length) * 8≤yaly)) then z5z_L11 g n v9 v10 (w64 (v11 + 1)) v12 (v13 ++ [v11]) v14 e0 else none) else e0 v9 v12 v13 v14)
def z5z_L16 (g:C_z5z):Nat→List G_Band→Int→Int→List Int→List Int→List Int→{R:Type}→(List G_Band→List Int→List Int→Option R)→Option R
 | 0,_,_,_,_,_,_,_,_=>none
 | n + 1,v19,v20,v21,v22,v23,v24,_,e0=>(bif (decide (v21 < v20)) then (inr v22 v21 (at_ v22 v21 fun x28=>(inr v24 x28 (at_ v24 x28 fun x29=>(inr v24 x28 (at_ v24 x28 fun x30=>z5z_L16 g n v19 v20 (w64 (v21 + 1)) v22 v23 (set_ v24 x28 (w64 (x29 + 1))) e0)))))) else e0 v19 v23 v24)
def z5z_L23 (g:C_z5z):Nat→List G_Band→Int→Int→List Int→List G_Pair→List Int→{R:Type}→(List G_Pair→Option R)→Option R
 | 0,_,_,_,_,_,_,_,_=>none
 | n + 1,v36,v37,v38,v39,v40,v41,_,e0=>(bif (decide (v38 < v37)) then (inr v39 v38 (at_ v39 v38 fun x46=>(get_ v36 x46 fun x47=>(inr v41 x46 (at_ v41 x46 fun x48=>(g.strconv_Itoa x48 (fun r49=>(bif (decide ((v40.length + [(⟨x47.f_Key,r49⟩:G_Pair)].length) * 32≤yaly)) then z5z_L23 g n v36 v37 (w64 (v38 + 1)) v39 (v40 ++ [(⟨x47.f_Key,r49⟩:G_Pair)]) v41 e0 else none)))))))) else e0 v40)
def z5z_ (g:C_z5z) (a1:List G_Band) (a2:List G_Spot) (a3 a4:Int) {R:Type} (k0:List G_Pair→Int→Option R):Option R :=
 (g.z57z a1 a2 (fun r5=>(bif (r5 != 0) then k0 [] r5 else (g.z56z a3 a4 0 (fun r6=>(bif (r6 != 0) then k0 [] r6 else (g.band_heard a1 a2 a3 a4 (fun r7 r8=>(bif (decide (0≤(a1.length:Int)) && (decide ((a1.length:Int)≤(a1.length:Int)) && decide ((a1.length:Int) * (8:Nat)≤140737488355328))) then (bif (decide (0≤0) && (decide (0≤(a1.length:Int)) && decide ((a1.length:Int) * (8:Nat)≤140737488355328))) then (z5z_L11 g g.N a1 (a1.length:Int) 0 r8 (List.replicate (0:Int).toNat 0) (List.replicate ((a1.length:Int):Int).toNat 0) (fun e15 e16 e17 e18=>(z5z_L16 g g.N e15 (e16.length:Int) 0 e16 e17 e18 (fun e31 e32 e33=>(g.z26z e32 e33 (fun r34 r35=>(z5z_L23 g g.N e31 (r34.length:Int) 0 r34 [] r35 (fun e50=>k0 e50 0)))))))) else none) else none)))))))))
noncomputable def I_z5z [Fuel]:C_z5z:=⟨NN,@z57z _,@z56z _,@band_heard _,@z26z _,@strconv_Itoa _⟩
noncomputable def z5z [Fuel]:T_z5z:=@z5z_ I_z5z
def yqKy (g:T_z5z):Spec A:=fun args=>match args with | [.d (.sl 62 a1),.d (.sl 42 a2),.d (.int .i64 a3),.d (.int .i64 a4)]=>fun k=>g a1 a2 a3 a4 (fun z0 z1=>k (.tup [.arr 99 z0,.d (.int .i64 z1)]) [.undef,.undef,.undef,.undef]) | _=>fun _=>none
def ylay:SSt:=mkSh 96 15 [(0,.sl 62),(13,.own 3 1),(14,.ptr 3 0),(15,.own 3 5),(49,.int .i64),(50,.int .i64)] [(1,.row 3),(3,.box [.own 3 6]),(5,.row 3),(6,.row 3)]
def yf3y (g:C_z5z) (n:Nat):LPT A:=fun ps=>match ps with | [.d (.sl 62 p1),.d (.int .i64 p2),.d (.int .i64 p3),.d (.sl 3 p4),.d (.sl 3 p5),.d (.sl 3 p6)]=>fun K=>z5z_L11 g n p1 p2 p3 p4 p5 p6 (fun z0 z1 z2 z3=>K (.exit 0) (mkSt 96 15 [(0,.d (.sl 62 z0)),(13,.own 3 1),(14,.ptr 3 0),(15,.own 3 5)] [(1,some (.row 3 z1)),(3,some (.box [.own 3 6])),(5,some (.row 3 z2)),(6,some (.row 3 z3))])) | _=>fun _=>none
def ylzy:SSt:=mkSh 96 15 [(0,.sl 62),(14,.ptr 3 0),(15,.own 3 5),(58,.own 3 1),(59,.int .i64),(60,.int .i64)] [(1,.row 3),(3,.box [.own 3 9]),(5,.row 3),(9,.row 3)]
def yf0y (g:C_z5z) (n:Nat):LPT A:=fun ps=>match ps with | [.d (.sl 62 p1),.d (.int .i64 p2),.d (.int .i64 p3),.d (.sl 3 p4),.d (.sl 3 p5),.d (.sl 3 p6)]=>fun K=>z5z_L16 g n p1 p2 p3 p4 p5 p6 (fun z0 z1 z2=>K (.exit 2) (mkSt 96 15 [(0,.d (.sl 62 z0)),(14,.ptr 3 0),(15,.own 3 5)] [(3,some (.box [.own 3 9])),(5,some (.row 3 z1)),(9,some (.row 3 z2))])) | _=>fun _=>none
def ykHy:SSt:=mkSh 96 15 [(0,.sl 62),(14,.ptr 3 0),(19,.own 99 11),(74,.own 3 5),(75,.int .i64),(76,.int .i64)] [(3,.box [.own 3 12]),(5,.row 3),(11,.row 99),(12,.row 3)]
def ye5y (g:C_z5z) (n:Nat):LPT A:=fun ps=>match ps with | [.d (.sl 62 p1),.d (.int .i64 p2),.d (.int .i64 p3),.d (.sl 3 p4),.d (.sl 99 p5),.d (.sl 3 p6)]=>fun K=>z5z_L23 g n p1 p2 p3 p4 p5 p6 (fun z0=>K (.exit 4) (mkSt 96 15 [(19,.own 99 11)] [(11,some (.row 99 z0))])) | _=>fun _=>none
noncomputable def yoHy:Code:=(Tryz.f19.body).getD .skip
noncomputable def E_z5z (g:C_z5z):Env A:=mkE [(31,ygby g.z57z),(34,ygly g.z56z),(36,yaTy g.band_heard),(49,yn3y g.z26z),(51,yiVy g.strconv_Itoa)] [(14,[3]),(39,[0,1]),(44,[2]),(47,[4]),(55,[7]),(56,[8]),(73,[10]),(92,[13]),(93,[14])] [(11,⟨[0,13,14,15,49,50],[(15,3,5)],[1,3],[(3,0,3,6)],[],[],[]⟩),(16,⟨[0,14,15,58,59,60],[],[1,3,5],[(3,0,3,9)],[],[],[]⟩),(23,⟨[0,14,19,74,75,76],[(19,99,11)],[3,5],[(3,0,3,12)],[],[],[]⟩)] [(11,⟨[0,13,14,15],[],[1,3,5,6],[],[],[],[]⟩),(16,⟨[0,14,15],[],[3,5,9],[],[],[],[]⟩),(23,⟨[19],[],[11],[],[],[],[]⟩)] [(11,yafy ylay (yf3y g g.N)),(16,yafy ylzy (yf0y g g.N)),(23,yafy ykHy (ye5y g g.N))] [] [] [] [(49,0)] []
theorem yyry [Fuel]:yahy (E_z5z I_z5z).C:=ct_of (P:=Tryz.prog) (T:=T) (.cons ygiy (.cons yf7y (.cons yb1y (.cons yACy (.cons yiQy .nil))))) (by kernel_rfl)
noncomputable def ysFy:Code:=sub [1,1,1,1,1,1,0,1,0,0] yoHy
theorem yEQy (g:C_z5z) (n:Nat):yaky (E_z5z g) g.N ysFy ylay (yf3y g) n:=by intro ps; unfold yf3y; split; exact .inr fun R K=>(by kernel_rfl); exact .inl fun R K=>rfl
theorem yCty [Fuel]:yacy (E_z5z I_z5z) NN ysFy:=yaey ylay (yf3y I_z5z) (by kernel_rfl) yyry (cuts0 (fun _=>rfl) (by kernel_rfl)) (fun ps R K=>by unfold yf3y; split <;> (try unfold z5z_L11) <;> rfl) (yEQy I_z5z)
noncomputable def yqLy:Code:=sub [1,1,1,1,1,1,1,0,1,0,0] yoHy
theorem yE4y (g:C_z5z) (n:Nat):yaky (E_z5z g) g.N yqLy ylzy (yf0y g) n:=by intro ps; unfold yf0y; split; exact .inr fun R K=>(by kernel_rfl); exact .inl fun R K=>rfl
theorem yCxy [Fuel]:yacy (E_z5z I_z5z) NN yqLy:=yaey ylzy (yf0y I_z5z) (by kernel_rfl) yyry (cuts0 (fun _=>rfl) (by kernel_rfl)) (fun ps R K=>by unfold yf0y; split <;> (try unfold z5z_L16) <;> rfl) (yE4y I_z5z)
noncomputable def yq6y:Code:=sub [1,1,1,1,1,1,1,1,1,1,0,1,0,0] yoHy
theorem yE2y (g:C_z5z) (n:Nat):yaky (E_z5z g) g.N yq6y ykHy (ye5y g) n:=by intro ps; unfold ye5y; split; exact .inr fun R K=>(by kernel_rfl); exact .inl fun R K=>rfl
theorem yDQy [Fuel]:yacy (E_z5z I_z5z) NN yq6y:=yaey ykHy (ye5y I_z5z) (by kernel_rfl) yyry (cuts0 (fun _=>rfl) (by kernel_rfl)) (fun ps R K=>by unfold ye5y; split <;> (try unfold z5z_L23) <;> rfl) (yE2y I_z5z)
theorem yNhy (g:C_z5z):Same (yqKy (@z5z_ g)) (abody (E_z5z g) Tryz.f19 yoHy 15 [] [.arr 99,.asis] g.N):=by intro args; unfold yqKy; split; exact .inr fun R k=>(by kernel_rfl); exact .inl fun R k=>rfl
theorem yE6y [Fuel]:Ok 19 (yqKy (@z5z _)):=yaay std (.cons ygiy (.cons yf7y (.cons yb1y (.cons yACy (.cons yiQy .nil))))) ⟨rfl,rfl,by kernel_rfl,rfl,rfl,rfl⟩ (yNhy I_z5z) (cutsL (fun _=>rfl) (.cons yCty (.cons yCxy (.cons yDQy .nil))) (by kernel_rfl)) Tryz.func19 (by kernel_rfl) (by kernel_rfl)
abbrev ygJy:Type 1:=List Int→{R:Type}→(Int→Option R)→Option R
def yfvy (g:Nat):Nat→List Int→Int→Int→{R:Type}→(Int→Option R)→Option R→Option R
 | 0,_,_,_,_,_,_=>none
 | n + 1,v2,v3,v4,_,e0,e1=>(bif (decide (v4 < v3)) then (get_ v2 v4 fun x6=>(bif (x6 != 0) then e0 x6 else yfvy g n v2 v3 (w64 (v4 + 1)) e0 e1)) else e1)
def ysyy (g:Nat) (a1:List Int) {R:Type} (k0:Int→Option R):Option R :=
 (yfvy g g a1 (a1.length:Int) 0 (fun e7=>k0 e7) (k0 0))
noncomputable def keep_errs [Fuel]:ygJy:=@ysyy NN
def ydvy (g:ygJy):Spec A:=fun args=>match args with | [.d (.sl 33 a1)]=>fun k=>g a1 (fun z0=>k (.d (.int .i64 z0)) [.undef]) | _=>fun _=>none
def yfgy:SSt:=mkSh 15 0 [(5,.sl 33),(6,.int .i64),(7,.int .i64)] []
def ycpy (g:Nat) (n:Nat):LPT A:=fun ps=>match ps with | [.d (.sl 33 p1),.d (.int .i64 p2),.d (.int .i64 p3)]=>fun K=>yfvy g n p1 p2 p3 (fun z0=>K .ret (mkSt 15 0 [(2,.d (.int .i64 z0))] [])) (K (.exit 0) (mkSt 15 0 [] [])) | _=>fun _=>none
noncomputable def yAJy:Code:=(Tryz.f20.body).getD .skip
noncomputable def ygIy (g:Nat):Env A:=mkE [] [] [(2,⟨[5,6,7],[],[],[],[],[],[]⟩)] [(2,⟨[2],[],[],[],[],[],[]⟩)] [(2,yafy yfgy (ycpy g g))] [] [] [] [] []
theorem yxOy [Fuel]:yahy (ygIy NN).C:=ct_of (P:=Tryz.prog) (T:=T) .nil (by kernel_rfl)
noncomputable def yiHy:Code:=sub [1,0,1,0,0] yAJy
theorem ythy (g:Nat) (n:Nat):yaky (ygIy g) g yiHy yfgy (ycpy g) n:=by intro ps; unfold ycpy; split; exact .inr fun R K=>(by kernel_rfl); exact .inl fun R K=>rfl
theorem ysRy [Fuel]:yacy (ygIy NN) NN yiHy:=yaey yfgy (ycpy NN) (by kernel_rfl) yxOy (cuts0 (fun _=>rfl) (by kernel_rfl)) (fun ps R K=>by unfold ycpy; split <;> (try unfold yfvy) <;> rfl) (ythy NN)
theorem yyRy (g:Nat):Same (ydvy (@ysyy g)) (abody (ygIy g) Tryz.f20 yAJy 0 [] [.asis] g):=by intro args; unfold ydvy; split; exact .inr fun R k=>(by kernel_rfl); exact .inl fun R k=>rfl
theorem yiky [Fuel]:Ok 20 (ydvy (@keep_errs _)):=yaay std .nil ⟨rfl,rfl,by kernel_rfl,rfl,rfl,rfl⟩ (yyRy NN) (cutsL (fun _=>rfl) (.cons ysRy .nil) (by kernel_rfl)) Tryz.func20 (by kernel_rfl) (by kernel_rfl)
abbrev yiDy:Type 1:=List G_Band→Int→{R:Type}→(List UInt8→Bool→Int→Option R)→Option R
structure C_log_BandOf where
 N:Nat
 z9z:T_z9z
 z45z:ycHy
 log_At:ylYy
def yi0y (g:C_log_BandOf) (a1:List G_Band) (a2:Int) {R:Type} (k0:List UInt8→Bool→Int→Option R):Option R :=
 (g.z9z a1 (fun r3=>(bif (r3 != 0) then k0 [] false r3 else (g.z45z a2 0 30000000000 (fun r4=>(bif r4 then k0 [] false 1 else (g.log_At a1 a2 (fun r5=>(bif (decide (r5 < 0)) then k0 [] false 0 else (get_ a1 r5 fun x6=>k0 x6.f_Key true 0))))))))))
noncomputable def yicy [Fuel]:C_log_BandOf:=⟨NN,@z9z _,@z45z _,@log_At _⟩
noncomputable def log_BandOf [Fuel]:yiDy:=@yi0y yicy
def yepy (g:yiDy):Spec A:=fun args=>match args with | [.d (.sl 62 a1),.d (.int .i64 a2)]=>fun k=>g a1 a2 (fun z0 z1 z2=>k (.tup [.d (.str z0),.d (.bool z1),.d (.int .i64 z2)]) [.undef,.undef]) | _=>fun _=>none
noncomputable def yKqy:Code:=(Tryz.f13.body).getD .skip
noncomputable def yyly (g:C_log_BandOf):Env A:=mkE [(41,ym8y g.z9z),(42,ybWy g.z45z),(43,ygVy g.log_At)] [] [] [] [] [] [] [] [] []
theorem yu6y (g:C_log_BandOf):Same (yepy (@yi0y g)) (abody (yyly g) Tryz.f13 yKqy 0 [] [.asis,.asis,.asis] g.N):=by intro args; unfold yepy; split; exact .inr fun R k=>(by kernel_rfl); exact .inl fun R k=>rfl
theorem ymiy [Fuel]:Ok 13 (yepy (@log_BandOf _)):=yaay std (.cons yD5y (.cons ybZy (.cons ym3y .nil))) ⟨rfl,rfl,by kernel_rfl,rfl,rfl,rfl⟩ (yu6y yicy) (cuts0 (fun _=>rfl) (by kernel_rfl)) Tryz.func13 (by kernel_rfl) (by kernel_rfl)
abbrev yzey:Type 1:=List (List UInt8)→{R:Type}→(List (List UInt8)→Option R)→Option R
def z82z [Fuel]:yzey:=@ydNy (List UInt8) 16
def yjUy (g:yzey):Spec A:=fun args=>match args with | [.d (.sl 9 x1)]=>fun k=>g x1 (fun z=>k (.arr 9 z) [.undef]) | _=>fun _=>none
theorem yBey [Fuel] (xs:List (A 9)) (R:Type) (k:IV A→List (IV A)→Option R):yjUy (@z82z _) [.d (.sl 9 xs)] k = ydNy 16 xs (fun z=>k (.arr 9 z) [.undef]):=by kernel_rfl
theorem yBFy [Fuel] (args:List (IV A)) (R:Type) (k:IV A→List (IV A)→Option R) (h:∀ xs:List (A 9),args ≠ [.d (.sl 9 xs)]):yjUy (@z82z _) args k = none:=by unfold yjUy; split; exact absurd rfl (h _); rfl
theorem yBHy [Fuel]:Ok 21 (yjUy (@z82z _)):=⟨yv5y (ypQy rfl (tyOk Tryz.prog) (e:=9) (size:=1) (bytes:=16) (ty:=9) (by kernel_rfl) (fun n c w=>AnyE.slices_Clone_nil Tryz.clone21 n c w) (fun b off n c news w h1 h2 h3 h4 h5=>AnyE.slices_Clone Tryz.clone21 Tryz.ti9 Tryz.zv9 1 16 (by kernel_rfl) (by kernel_rfl) (by kernel_rfl) (by kernel_rfl) (by kernel_rfl) (by decide) Tryz.sizeOf9 b off n c news w h1 h2 h3 h4 h5)) yBey yBFy,ywdy yBey yBFy,yaOy (fn:=Tryz.f21) Tryz.func21 (by kernel_rfl) (by kernel_rfl)⟩
abbrev yzdy:Type 1:=List (List UInt8)→{R:Type}→(List (List UInt8)→Option R)→Option R
def z78z [Fuel]:yzdy:=@yeIy (List UInt8) srtS
def yksy (g:yzdy):Spec A:=fun args=>match args with | [.arr 9 a1]=>fun k=>g a1 (fun z=>k (.tup []) [.arr 9 z]) | _=>fun _=>none
theorem yARy [Fuel] (xs:List (A 9)) (R:Type) (k:IV A→List (IV A)→Option R):yksy (@z78z _) [.arr 9 xs] k = yeIy (α:=A 9) srtS xs (fun z=>k (.tup []) [.arr 9 z]):=by kernel_rfl
theorem yBSy [Fuel] (args:List (IV A)) (R:Type) (k:IV A→List (IV A)→Option R) (h:∀ xs:List (A 9),args ≠ [.arr 9 xs]):yksy (@z78z _) args k = none:=by unfold yksy; split; exact absurd rfl (h _); rfl
theorem yK1y (x:(List UInt8)):∃ d,T.enc 9 x = [d]∧scal d = true∧Go.Proofs.encStr x = valD d:=⟨.str x,rfl,rfl,rfl⟩
theorem yBEy [Fuel]:Ok 22 (yksy (@z78z _)):=⟨yzKy (tyOk Tryz.prog) (e:=9) (inferInstanceAs (Inhabited (List UInt8))) Go.Proofs.encStr srtS (fun xs=>List.length_mergeSort xs) yK1y rfl (fun b c xs w h1 h2 h3=>Go.Proofs.Any.slices_Sort_string Tryz.lays190 b 0 c xs w h1 h2 h3) (fun p c w=>Go.Proofs.Any.slices_Sort_string_none Tryz.lays190 p c w) yARy yBSy,yHjy (e:=9) yARy yBSy,yaOy (fn:=Tryz.f22) Tryz.func22 (by kernel_rfl) (by kernel_rfl)⟩
end Go.Am
