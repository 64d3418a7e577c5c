/- The functions of the program as Lean functions, each shown to be what the code computes, part 10. No condition: lemmas for the claim. -/
import Derived.Test.YtfngnnmdgfkenaaGreatDoorF0
import Derived.Test.YtfngnnmdgfkenaaGreatDoorFSh
import Derived.Test.YtfngnnmdgfkenaaGreatDoorF3
import Derived.Test.YtfngnnmdgfkenaaGreatDoorF9
set_option linter.unusedVariables false
set_option maxRecDepth 100000
namespace Go.Am
open Go Go.Proofs
abbrev T_z1z:Type 1:=List G_Spot→Int→Int→Bool→Int→{R:Type}→(List G_Spot→Int→Bool→Int→Option R)→Option R
structure C_z1z where
 N:Nat
 z4z:T_z4z
def z1z_L2 (g:C_z1z):Nat→Int→Int→Int→Int→List G_Spot→Int→Bool→Int→{R:Type}→(Int→Int→Int→List G_Spot→Int→Bool→Int→Option R)→Option R
 | 0,_,_,_,_,_,_,_,_,_,_=>none
 | n + 1,v6,v7,v8,v9,v10,v11,v12,v13,_,e0=>(bif (decide (v9≤v6)) then (g.z4z v10 v8 v9 v11 v12 v13 (fun r18 r19 r20 r21=>none)) else e0 v6 v7 v8 v10 v11 v12 v13)
def z1z_L9 (g:C_z1z):Nat→Int→Int→Int→Int→List G_Spot→Int→Int→Bool→{R:Type}→(Int→Int→Int→List G_Spot→Int→Int→Bool→Option R)→Option R
 | 0,_,_,_,_,_,_,_,_,_,_=>none
 | n + 1,v54,v55,v56,v57,v58,v59,v60,v61,_,e0=>(bif (decide (v57≤v54)) then none else e0 v54 v55 v56 v58 v59 v60 v61)
def z1z_L7 (g:C_z1z):Nat→Int→Int→List G_Spot→Int→Int→Bool→{R:Type}→(List G_Spot→Int→Int→Bool→Option R)→Option R
 | 0,_,_,_,_,_,_,_,_=>none
 | n + 1,v33,v34,v35,v36,v37,v38,_,e0=>(bif (decide (v34 < v33)) then (z1z_L9 g g.N v33 v34 0 (w64 (2 * v34)) v35 v36 v37 v38 (fun e62 e63 e64 e65 e66 e67 e68=>(bif (decide ((w64 (e64 + e63)) < e62)) then none else z1z_L7 g n e62 (w64 (e63 * 2)) e65 e66 e67 e68 e0))) else e0 v35 v36 v37 v38)
def z1z_ (g:C_z1z) (a1:List G_Spot) (a2 a3:Int) (a4:Bool) (a5:Int) {R:Type} (k0:List G_Spot→Int→Bool→Int→Option R):Option R :=
 (z1z_L2 g g.N a2 20 0 20 a1 a3 a4 a5 (fun e22 e23 e24 e25 e26 e27 e28=>(g.z4z e25 e24 e22 e26 e27 e28 (fun r29 r30 r31 r32=>(z1z_L7 g g.N e22 e23 r29 r30 r32 r31 (fun e69 e70 e71 e72=>k0 e69 e70 e72 e71))))))
noncomputable def I_z1z [Fuel]:C_z1z:=⟨NN,@z4z _⟩
noncomputable def z1z [Fuel]:T_z1z:=@z1z_ I_z1z
def ytRy (g:T_z1z):Spec A:=fun args=>match args with | [.arr 45 a1,.d (.int .i64 a2),.fn 85 [.box [.fn 82 [.cel [.int .i64 a3] 0,.box [.d (.bool a4)]]],.box [.fn 83 [.cel [.int .i64 a5] 0]]]]=>fun k=>g a1 a2 a3 a4 a5 (fun z0 z1 z2 z3=>k (.tup []) [.arr 45 z0,.undef,.fn 85 [.box [.fn 82 [.cel [.int .i64 z1] 0,.box [.d (.bool z2)]]],.box [.fn 83 [.cel [.int .i64 z3] 0]]]]) | _=>fun _=>none
def ynJy:SSt:=mkSh 63 6 [(0,.own 45 0),(1,.int .i64),(2,.fn 85 [.ptr 1 0,.ptr 3 0]),(6,.int .i64),(7,.int .i64),(8,.int .i64)] [(0,.row 45),(1,.box [.fn 82 [.cel [.int .i64] 0,.ptr 2 0]]),(2,.box [.bool]),(3,.box [.fn 83 [.cel [.int .i64] 0]])]
def yhRy (g:C_z1z) (n:Nat):LPT A:=fun ps=>match ps with | [.d (.int .i64 p1),.d (.int .i64 p2),.d (.int .i64 p3),.d (.int .i64 p4),.d (.sl 45 p5),.d (.int .i64 p6),.d (.bool p7),.d (.int .i64 p8)]=>fun K=>z1z_L2 g n p1 p2 p3 p4 p5 p6 p7 p8 (fun z0 z1 z2 z3 z4 z5 z6=>K (.exit 0) (mkSt 63 6 [(0,.own 45 0),(1,.d (.int .i64 z0)),(2,.fn 85 [.ptr 1 0,.ptr 3 0]),(6,.d (.int .i64 z1)),(7,.d (.int .i64 z2))] [(0,some (.row 45 z3)),(1,some (.box [.fn 82 [.cel [.int .i64 z4] 0,.ptr 2 0]])),(2,some (.box [.d (.bool z5)])),(3,some (.box [.fn 83 [.cel [.int .i64 z6] 0]]))])) | _=>fun _=>none
def ynzy:SSt:=mkSh 63 6 [(0,.own 45 0),(1,.int .i64),(2,.fn 85 [.ptr 1 0,.ptr 3 0]),(6,.int .i64),(7,.int .i64),(8,.int .i64)] [(0,.row 45),(1,.box [.fn 82 [.cel [.int .i64] 0,.ptr 5 0]]),(3,.box [.fn 83 [.cel [.int .i64] 0]]),(5,.box [.bool])]
def yhyy (g:C_z1z) (n:Nat):LPT A:=fun ps=>match ps with | [.d (.int .i64 p1),.d (.int .i64 p2),.d (.int .i64 p3),.d (.int .i64 p4),.d (.sl 45 p5),.d (.int .i64 p6),.d (.int .i64 p7),.d (.bool p8)]=>fun K=>z1z_L9 g n p1 p2 p3 p4 p5 p6 p7 p8 (fun z0 z1 z2 z3 z4 z5 z6=>K (.exit 4) (mkSt 63 6 [(0,.own 45 0),(1,.d (.int .i64 z0)),(2,.fn 85 [.ptr 1 0,.ptr 3 0]),(6,.d (.int .i64 z1)),(7,.d (.int .i64 z2))] [(0,some (.row 45 z3)),(1,some (.box [.fn 82 [.cel [.int .i64 z4] 0,.ptr 5 0]])),(3,some (.box [.fn 83 [.cel [.int .i64 z5] 0]])),(5,some (.box [.d (.bool z6)]))])) | _=>fun _=>none
def ynGy:SSt:=mkSh 63 6 [(0,.own 45 0),(1,.int .i64),(2,.fn 85 [.ptr 1 0,.ptr 3 0]),(6,.int .i64)] [(0,.row 45),(1,.box [.fn 82 [.cel [.int .i64] 0,.ptr 5 0]]),(3,.box [.fn 83 [.cel [.int .i64] 0]]),(5,.box [.bool])]
def yhJy (g:C_z1z) (n:Nat):LPT A:=fun ps=>match ps with | [.d (.int .i64 p1),.d (.int .i64 p2),.d (.sl 45 p3),.d (.int .i64 p4),.d (.int .i64 p5),.d (.bool p6)]=>fun K=>z1z_L7 g n p1 p2 p3 p4 p5 p6 (fun z0 z1 z2 z3=>K (.exit 2) (mkSt 63 6 [(0,.own 45 0),(2,.fn 85 [.ptr 1 0,.ptr 3 0])] [(0,some (.row 45 z0)),(1,some (.box [.fn 82 [.cel [.int .i64 z1] 0,.ptr 5 0]])),(3,some (.box [.fn 83 [.cel [.int .i64 z2] 0]])),(5,some (.box [.d (.bool z3)]))])) | _=>fun _=>none
noncomputable def E_z1z (g:C_z1z):Env A:=mkE [(112,ytcy g.z4z)] [(18,[4]),(27,[5])] [(2,⟨[0,1,2,6,7,8],[],[0,1,2,3],[],[],[],[]⟩),(9,⟨[0,1,2,6,7,8],[],[0,1,3,5],[],[],[],[]⟩),(7,⟨[0,1,2,6],[],[0,1,3,5],[],[],[],[]⟩)] [(2,⟨[0,1,2,6,7],[],[0,1,2,3],[],[],[],[]⟩),(9,⟨[0,1,2,6,7],[],[0,1,3,5],[],[],[],[]⟩),(7,⟨[0,2],[],[0,1,3,5],[],[],[],[]⟩)] [(2,yady ynJy (yhRy g g.N)),(9,yady ynzy (yhyy g g.N)),(7,yady ynGy (yhJy g g.N))] [] [] [] [(112,0)] [0,2]
theorem yAmy [Fuel]:yahy (E_z1z I_z1z).C:=ct_of (P:=Tryz.prog) (T:=T) (.cons yIty .nil) (by kernel_rfl)
noncomputable def yvFy:Code:=sub [1,1,0,0,0] ycdy
theorem yKOy (g:C_z1z) (n:Nat):yaiy (E_z1z g) g.N yvFy ynJy (yhRy g) n:=by intro ps; unfold yhRy; split; exact .inr fun R K=>(by kernel_rfl); exact .inl fun R K=>rfl
theorem yGuy [Fuel]:yaby (E_z1z I_z1z) NN yvFy:=yacy ynJy (yhRy I_z1z) (by kernel_rfl) yAmy (cuts0 (fun _=>rfl) (by kernel_rfl)) (fun ps R K=>by unfold yhRy; split <;> (try unfold z1z_L2) <;> rfl) (yKOy I_z1z)
noncomputable def yv4y:Code:=sub [1,1,1,1,0,0,1,0,1,0,0,0] ycdy
theorem yJFy (g:C_z1z) (n:Nat):yaiy (E_z1z g) g.N yv4y ynzy (yhyy g) n:=by intro ps; unfold yhyy; split; exact .inr fun R K=>(by kernel_rfl); exact .inl fun R K=>rfl
theorem yvTy [Fuel]:yaby (E_z1z I_z1z) NN yv4y:=yacy ynzy (yhyy I_z1z) (by kernel_rfl) yAmy (cuts0 (fun _=>rfl) (by kernel_rfl)) (fun ps R K=>by unfold yhyy; split <;> (try unfold z1z_L9) <;> rfl) (yJFy I_z1z)
noncomputable def yvWy:Code:=sub [1,1,1,1,0,0] ycdy
theorem yKay (g:C_z1z) (n:Nat):yaiy (E_z1z g) g.N yvWy ynGy (yhJy g) n:=by intro ps; unfold yhJy; split; exact .inr fun R K=>(by kernel_rfl); exact .inl fun R K=>rfl
theorem yH2y [Fuel]:yaby (E_z1z I_z1z) NN yvWy:=yacy ynGy (yhJy I_z1z) (by kernel_rfl) yAmy (cutsL (fun _=>rfl) (.cons yvTy .nil) (by kernel_rfl)) (fun ps R K=>by unfold yhJy; split <;> (try unfold z1z_L7) <;> rfl) (yKay I_z1z)
theorem yQDy (g:C_z1z):Same (ytRy (@z1z_ g)) (abody (E_z1z g) Tryz.f99 ycdy 6 [0,1,2,3] [] g.N):=by intro args; unfold ytRy; split; exact .inr fun R k=>(by kernel_rfl); exact .inl fun R k=>rfl
theorem yQYy [Fuel]:Ok 99 (ytRy (@z1z _)):=yaay std (.cons yIty .nil) ⟨rfl,rfl,by kernel_rfl,rfl,rfl,rfl⟩ (yQDy I_z1z) (cutsL (fun _=>rfl) (.cons yGuy (.cons yvTy (.cons yH2y .nil))) (by kernel_rfl)) Tryz.func99 (by kernel_rfl) (by kernel_rfl)
abbrev yH7y:Type 1:=List G_Spot→Int→Bool→Int→{R:Type}→(List G_Spot→Int→Bool→Int→Option R)→Option R
structure C_z37z where
 N:Nat
 z1z:T_z1z
def z37z_ (g:C_z37z) (a1:List G_Spot) (a2:Int) (a3:Bool) (a4:Int) {R:Type} (k0:List G_Spot→Int→Bool→Int→Option R):Option R :=
 (g.z1z a1 (a1.length:Int) a2 a3 a4 (fun r5 r6 r7 r8=>k0 r5 r6 r7 r8))
noncomputable def yGfy [Fuel]:C_z37z:=⟨NN,@z1z _⟩
noncomputable def z37z [Fuel]:yH7y:=@z37z_ yGfy
def yu4y (g:yH7y):Spec A:=fun args=>match args with | [.arr 45 a1,.fn 85 [.box [.fn 82 [.cel [.int .i64 a2] 0,.box [.d (.bool a3)]]],.box [.fn 83 [.cel [.int .i64 a4] 0]]]]=>fun k=>g a1 a2 a3 a4 (fun z0 z1 z2 z3=>k (.tup []) [.arr 45 z0,.fn 85 [.box [.fn 82 [.cel [.int .i64 z1] 0,.box [.d (.bool z2)]]],.box [.fn 83 [.cel [.int .i64 z3] 0]]]]) | _=>fun _=>none
noncomputable def yRby (g:C_z37z):Env A:=mkE [(99,ytRy g.z1z)] [(8,[4])] [] [] [] [] [] [] [(99,0)] [0,1]
theorem yO0y (g:C_z37z):Same (yu4y (@z37z_ g)) (abody (yRby g) Tryz.f55 yuay 5 [0,1,2,3] [] g.N):=by intro args; unfold yu4y; split; exact .inr fun R k=>(by kernel_rfl); exact .inl fun R k=>rfl
theorem ok_z37z [Fuel]:Ok 55 (yu4y (@z37z _)):=yaay std (.cons yQYy .nil) ⟨rfl,rfl,by kernel_rfl,rfl,rfl,rfl⟩ (yO0y yGfy) (cuts0 (fun _=>rfl) (by kernel_rfl)) Tryz.func55 (by kernel_rfl) (by kernel_rfl)
abbrev yuCy:Type 1:=G_Spot→Int→Bool→{R:Type}→(Bool→Option R)→Option R
def z113z_ (g:Nat) (a1:G_Spot) (a2:Int) (a3:Bool) {R:Type} (k0:Bool→Option R):Option R :=
 (bif (a1.f_Hertz == a2) then k0 true else k0 ((decide (a1.f_Hertz < a2)) == a3))
noncomputable def z113z [Fuel]:yuCy:=@z113z_ NN
def ylGy (g:yuCy):Spec A:=fun args=>match args with | [.agg [.d (.int .i64 a1),.d (.int .i64 a2),.d (.str a3),.d (.str a4)],.cel [.int .i64 a5] 0,.cel [.bool a6] 0]=>fun k=>g ⟨a1,a2,a3,a4⟩ a5 a6 (fun z0=>k (.d (.bool z0)) [.undef,.undef,.undef]) | _=>fun _=>none
noncomputable def yOUy (g:Nat):Env A:=mkE [] [(3,[0])] [] [] [] [] [] [] [] []
theorem yJly (g:Nat):Same (ylGy (@z113z_ g)) (abody (yOUy g) Tryz.f82 yD5y 1 [] [.asis] g):=by intro args; unfold ylGy; split; exact .inr fun R k=>(by kernel_rfl); exact .inl fun R k=>rfl
theorem yKXy [Fuel]:Ok 82 (ylGy (@z113z _)):=yaay std .nil ⟨rfl,rfl,by kernel_rfl,rfl,rfl,rfl⟩ (yJly NN) (cuts0 (fun _=>rfl) (by kernel_rfl)) Tryz.func82 (by kernel_rfl) (by kernel_rfl)
abbrev yw8y:Type 1:=G_Spot→G_Spot→Int→Bool→Int→{R:Type}→(Int→Int→Bool→Int→Option R)→Option R
structure C_z41z where
 N:Nat
 z113z:yuCy
 z114z:yoFy
def z41z_ (g:C_z41z) (a1 a2:G_Spot) (a3:Int) (a4:Bool) (a5:Int) {R:Type} (k0:Int→Int→Bool→Int→Option R):Option R :=
 (g.z113z a1 a3 a4 (fun r6=>(g.z113z a2 a3 a4 (fun r7=>(bif (!(r6 == r7)) then (bif r6 then k0 (-1) a3 a4 a5 else k0 1 a3 a4 a5) else (g.z114z a1 a5 (fun r8=>(g.z114z a2 a5 (fun r9=>k0 (w64 (r8 - r9)) a3 a4 a5)))))))))
noncomputable def yyny [Fuel]:C_z41z:=⟨NN,@z113z _,@z114z _⟩
noncomputable def z41z [Fuel]:yw8y:=@z41z_ yyny
def ypjy (g:yw8y):Spec A:=fun args=>match args with | [.agg [.d (.int .i64 a1),.d (.int .i64 a2),.d (.str a3),.d (.str a4)],.agg [.d (.int .i64 a5),.d (.int .i64 a6),.d (.str a7),.d (.str a8)],.box [.fn 82 [.cel [.int .i64 a9] 0,.cel [.bool a10] 0]],.box [.fn 83 [.cel [.int .i64 a11] 0]]]=>fun k=>g ⟨a1,a2,a3,a4⟩ ⟨a5,a6,a7,a8⟩ a9 a10 a11 (fun z0 z1 z2 z3=>k (.d (.int .i64 z0)) [.undef,.undef,.box [.fn 82 [.cel [.int .i64 z1] 0,.cel [.bool z2] 0]],.box [.fn 83 [.cel [.int .i64 z3] 0]]]) | _=>fun _=>none
noncomputable def yRvy (g:C_z41z):Env A:=mkE [(82,ylGy g.z113z),(83,yiOy g.z114z)] [(4,[2]),(5,[3])] [] [] [] [] [] [] [] [2,3]
theorem yO1y (g:C_z41z):Same (ypjy (@z41z_ g)) (abody (yRvy g) Tryz.f85 yCSy 4 [0,1] [.asis] g.N):=by intro args; unfold ypjy; split; exact .inr fun R k=>(by kernel_rfl); exact .inl fun R k=>rfl
theorem yCYy [Fuel]:Ok 85 (ypjy (@z41z _)):=yaay std (.cons yKXy (.cons yzyy .nil)) ⟨rfl,rfl,by kernel_rfl,rfl,rfl,rfl⟩ (yO1y yyny) (cuts0 (fun _=>rfl) (by kernel_rfl)) Tryz.func85 (by kernel_rfl) (by kernel_rfl)
abbrev T_z3z:Type 1:=List G_Spot→Int→Int→Int→Bool→Int→{R:Type}→(List G_Spot→Int→Bool→Int→Option R)→Option R
structure C_z3z where
 N:Nat
 z41z:yw8y
def z3z_L4 (g:C_z3z):Nat→Int→Int→Int→Int→List G_Spot→Int→Bool→Int→{R:Type}→(Int→Int→Int→List G_Spot→Int→Bool→Int→Option R)→Option R
 | 0,_,_,_,_,_,_,_,_,_,_=>none
 | n + 1,v49,v50,v51,v52,v53,v54,v55,v56,_,e0=>(bif (decide (v52 > v49)) then (inr v53 v52 (at_ v53 v52 fun x67=>(inr v53 (w64 (v52 - 1)) (at_ v53 (w64 (v52 - 1)) fun x68=>(g.z41z x67 x68 v54 v55 v56 (fun r69 r70 r71 r72=>(bif (decide (r69 < 0)) then (inr v53 (w64 (v52 - 1)) (at_ v53 (w64 (v52 - 1)) fun x73=>(inr v53 v52 (at_ v53 v52 fun x74=>(inr v53 v52 (at_ v53 v52 fun x75=>(inr (set_ v53 v52 x73) (w64 (v52 - 1)) (at_ (set_ v53 v52 x73) (w64 (v52 - 1)) fun x76=>z3z_L4 g n v49 v50 v51 (w64 (v52 - 1)) (set_ (set_ v53 v52 x73) (w64 (v52 - 1)) x74) r70 r71 r72 e0)))))))) else e0 v49 v50 v51 v53 r70 r71 r72))))))) else e0 v49 v50 v51 v53 v54 v55 v56)
def z3z_L1 (g:C_z3z):Nat→Int→Int→Int→List G_Spot→Int→Bool→Int→{R:Type}→(List G_Spot→Int→Bool→Int→Option R)→Option R
 | 0,_,_,_,_,_,_,_,_,_=>none
 | n + 1,v7,v8,v9,v10,v11,v12,v13,_,e0=>(bif (decide (v9 < v8)) then (z3z_L4 g g.N v7 v8 v9 v9 v10 v11 v12 v13 (fun e77 e78 e79 e80 e81 e82 e83=>z3z_L1 g n e77 e78 (w64 (e79 + 1)) e80 e81 e82 e83 e0)) else e0 v10 v11 v12 v13)
def z3z_ (g:C_z3z) (a1:List G_Spot) (a2 a3 a4:Int) (a5:Bool) (a6:Int) {R:Type} (k0:List G_Spot→Int→Bool→Int→Option R):Option R :=
 (z3z_L1 g g.N a2 a3 (w64 (a2 + 1)) a1 a4 a5 a6 (fun e84 e85 e86 e87=>k0 e84 e85 e86 e87))
noncomputable def I_z3z [Fuel]:C_z3z:=⟨NN,@z41z _⟩
noncomputable def z3z [Fuel]:T_z3z:=@z3z_ I_z3z
def ysEy (g:T_z3z):Spec A:=fun args=>match args with | [.arr 45 a1,.d (.int .i64 a2),.d (.int .i64 a3),.fn 85 [.box [.fn 82 [.cel [.int .i64 a4] 0,.cel [.bool a5] 0]],.box [.fn 83 [.cel [.int .i64 a6] 0]]]]=>fun k=>g a1 a2 a3 a4 a5 a6 (fun z0 z1 z2 z3=>k (.tup []) [.arr 45 z0,.undef,.undef,.fn 85 [.box [.fn 82 [.cel [.int .i64 z1] 0,.cel [.bool z2] 0]],.box [.fn 83 [.cel [.int .i64 z3] 0]]]]) | _=>fun _=>none
def ynmy:SSt:=mkSh 53 3 [(0,.own 45 0),(1,.int .i64),(2,.int .i64),(3,.fn 85 [.ptr 1 0,.ptr 2 0]),(8,.int .i64),(9,.int .i64)] [(0,.row 45),(1,.box [.fn 82 [.cel [.int .i64] 0,.cel [.bool] 0]]),(2,.box [.fn 83 [.cel [.int .i64] 0]])]
def yhry (g:C_z3z) (n:Nat):LPT A:=fun ps=>match ps with | [.d (.int .i64 p1),.d (.int .i64 p2),.d (.int .i64 p3),.d (.int .i64 p4),.d (.sl 45 p5),.d (.int .i64 p6),.d (.bool p7),.d (.int .i64 p8)]=>fun K=>z3z_L4 g n p1 p2 p3 p4 p5 p6 p7 p8 (fun z0 z1 z2 z3 z4 z5 z6=>K (.exit 2) (mkSt 53 3 [(0,.own 45 0),(1,.d (.int .i64 z0)),(2,.d (.int .i64 z1)),(3,.fn 85 [.ptr 1 0,.ptr 2 0]),(8,.d (.int .i64 z2))] [(0,some (.row 45 z3)),(1,some (.box [.fn 82 [.cel [.int .i64 z4] 0,.cel [.bool z5] 0]])),(2,some (.box [.fn 83 [.cel [.int .i64 z6] 0]]))])) | _=>fun _=>none
def ynxy:SSt:=mkSh 53 3 [(0,.own 45 0),(1,.int .i64),(2,.int .i64),(3,.fn 85 [.ptr 1 0,.ptr 2 0]),(8,.int .i64)] [(0,.row 45),(1,.box [.fn 82 [.cel [.int .i64] 0,.cel [.bool] 0]]),(2,.box [.fn 83 [.cel [.int .i64] 0]])]
def yhpy (g:C_z3z) (n:Nat):LPT A:=fun ps=>match ps with | [.d (.int .i64 p1),.d (.int .i64 p2),.d (.int .i64 p3),.d (.sl 45 p4),.d (.int .i64 p5),.d (.bool p6),.d (.int .i64 p7)]=>fun K=>z3z_L1 g n p1 p2 p3 p4 p5 p6 p7 (fun z0 z1 z2 z3=>K (.exit 0) (mkSt 53 3 [(0,.own 45 0),(3,.fn 85 [.ptr 1 0,.ptr 2 0])] [(0,some (.row 45 z0)),(1,some (.box [.fn 82 [.cel [.int .i64 z1] 0,.cel [.bool z2] 0]])),(2,some (.box [.fn 83 [.cel [.int .i64 z3] 0]]))])) | _=>fun _=>none
noncomputable def E_z3z (g:C_z3z):Env A:=mkE [(85,ypjy g.z41z)] [] [(4,⟨[0,1,2,3,8,9],[],[0,1,2],[],[],[],[]⟩),(1,⟨[0,1,2,3,8],[],[0,1,2],[],[],[],[]⟩)] [(4,⟨[0,1,2,3,8],[],[0,1,2],[],[],[],[]⟩),(1,⟨[0,3],[],[0,1,2],[],[],[],[]⟩)] [(4,yady ynmy (yhry g g.N)),(1,yady ynxy (yhpy g g.N))] [] [] [] [] [0,3]
theorem yIHy [Fuel]:yahy (E_z3z I_z3z).C:=ct_of (P:=Tryz.prog) (T:=T) (.cons yCYy .nil) (by kernel_rfl)
noncomputable def yvzy:Code:=sub [1,0,0,1,0,0,1,0,0] ycWy
theorem yKVy (g:C_z3z) (n:Nat):yaiy (E_z3z g) g.N yvzy ynmy (yhry g) n:=by intro ps; unfold yhry; split; exact .inr fun R K=>(by kernel_rfl); exact .inl fun R K=>rfl
theorem ywpy [Fuel]:yaby (E_z3z I_z3z) NN yvzy:=yacy ynmy (yhry I_z3z) (by kernel_rfl) yIHy (cuts0 (fun _=>rfl) (by kernel_rfl)) (fun ps R K=>by unfold yhry; split <;> (try unfold z3z_L4) <;> rfl) (yKVy I_z3z)
noncomputable def yv3y:Code:=sub [1,0,0] ycWy
theorem yKdy (g:C_z3z) (n:Nat):yaiy (E_z3z g) g.N yv3y ynxy (yhpy g) n:=by intro ps; unfold yhpy; split; exact .inr fun R K=>(by kernel_rfl); exact .inl fun R K=>rfl
theorem yGUy [Fuel]:yaby (E_z3z I_z3z) NN yv3y:=yacy ynxy (yhpy I_z3z) (by kernel_rfl) yIHy (cutsL (fun _=>rfl) (.cons ywpy .nil) (by kernel_rfl)) (fun ps R K=>by unfold yhpy; split <;> (try unfold z3z_L1) <;> rfl) (yKdy I_z3z)
theorem yRty (g:C_z3z):Same (ysEy (@z3z_ g)) (abody (E_z3z g) Tryz.f112 ycWy 3 [0,1,2] [] g.N):=by intro args; unfold ysEy; split; exact .inr fun R k=>(by kernel_rfl); exact .inl fun R k=>rfl
theorem yGsy [Fuel]:Ok 112 (ysEy (@z3z _)):=yaay std (.cons yCYy .nil) ⟨rfl,rfl,by kernel_rfl,rfl,rfl,rfl⟩ (yRty I_z3z) (cutsL (fun _=>rfl) (.cons ywpy (.cons yGUy .nil)) (by kernel_rfl)) Tryz.func112 (by kernel_rfl) (by kernel_rfl)
end Go.Am
