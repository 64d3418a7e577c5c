/- The functions of the program as Lean functions, each shown to be what the code computes, part 7. No condition: lemmas for the claim. -/
import Derived.Test.YtnlblmnoiepeaaaGreatDoorF0
import Derived.Test.YtnlblmnoiepeaaaGreatDoorFSh
import Derived.Test.YtnlblmnoiepeaaaGreatDoorF2
import Derived.Test.YtnlblmnoiepeaaaGreatDoorF5
import Derived.Test.YtnlblmnoiepeaaaGreatDoorF6
set_option linter.unusedVariables false
set_option maxRecDepth 100000
namespace Go.Am
open Go Go.Proofs
abbrev yy1y:Type 1:=G_Spot→G_Spot→Int→Bool→Int→{R:Type}→(Int→Int→Bool→Int→Option R)→Option R
structure C_z28z where
 N:Nat
 z97z:yx9y
 z106z:ytRy
def z28z_ (g:C_z28z) (a1 a2:G_Spot) (a3:Int) (a4:Bool) (a5:Int) {R:Type} (k0:Int→Int→Bool→Int→Option R):Option R :=
 (g.z97z a1 a3 a4 (fun r6=>(g.z97z a2 a3 a4 (fun r7=>(bif (!(r6 == r7)) then (bif r6 then k0 (-1) a3 a4 a5 else k0 1 a3 a4 a5) else (g.z106z a1 a5 (fun r8=>(g.z106z a2 a5 (fun r9=>k0 (w64 (r8 - r9)) a3 a4 a5)))))))))
noncomputable def yywy [Fuel]:C_z28z:=⟨NN,@z97z _,@z106z _⟩
noncomputable def z28z [Fuel]:yy1y:=@z28z_ yywy
def yowy (g:yy1y):Spec A:=fun args=>match args with | [.agg [.d (.int .i64 a1),.d (.int .i64 a2),.d (.str a3),.d (.str a4)],.agg [.d (.int .i64 a5),.d (.int .i64 a6),.d (.str a7),.d (.str a8)],.box [.fn 89 [.cel [.int .i64 a9] 0,.cel [.bool a10] 0]],.box [.fn 90 [.cel [.int .i64 a11] 0]]]=>fun k=>g ⟨a1,a2,a3,a4⟩ ⟨a5,a6,a7,a8⟩ a9 a10 a11 (fun z0 z1 z2 z3=>k (.d (.int .i64 z0)) [.undef,.undef,.box [.fn 89 [.cel [.int .i64 z1] 0,.cel [.bool z2] 0]],.box [.fn 90 [.cel [.int .i64 z3] 0]]]) | _=>fun _=>none
noncomputable def yJYy:Code:=(Tryz.f92.body).getD .skip
noncomputable def yNey (g:C_z28z):Env A:=mkE [(89,yoey g.z97z),(90,yk3y g.z106z)] [(4,[2]),(5,[3])] [] [] [] [] [] [] [] [2,3]
theorem yJ3y (g:C_z28z):Same (yowy (@z28z_ g)) (abody (yNey g) Tryz.f92 yJYy 4 [0,1] [.asis] g.N):=by intro args; unfold yowy; split; exact .inr fun R k=>(by kernel_rfl); exact .inl fun R k=>rfl
theorem yA0y [Fuel]:Ok 92 (yowy (@z28z _)):=yaay std (.cons yMYy (.cons yGgy .nil)) ⟨rfl,rfl,by kernel_rfl,rfl,rfl,rfl⟩ (yJ3y yywy) (cuts0 (fun _=>rfl) (by kernel_rfl)) Tryz.func92 (by kernel_rfl) (by kernel_rfl)
abbrev T_z1z:Type 1:=List G_Spot→Int→Int→Int→Bool→Int→{R:Type}→(List G_Spot→Int→Bool→Int→Option R)→Option R
structure C_z1z where
 N:Nat
 z28z:yy1y
def z1z_L4 (g:C_z1z):Nat→Int→Int→Int→Int→List G_Spot→Int→Bool→Int→{R:Type}→(Int→Int→Int→List G_Spot→Int→Bool→Int→Option R)→Option R
 | 0,_,_,_,_,_,_,_,_,_,_=>none
 | n + 1,v49,v50,v51,v52,v53,v54,v55,v56,_,e0=>(bif (decide (v52 > v49)) then (inr v53 v52 (at_ v53 v52 fun x67=>(inr v53 (w64 (v52 - 1)) (at_ v53 (w64 (v52 - 1)) fun x68=>(g.z28z x67 x68 v54 v55 v56 (fun r69 r70 r71 r72=>(bif (decide (r69 < 0)) then (inr v53 (w64 (v52 - 1)) (at_ v53 (w64 (v52 - 1)) fun x73=>(inr v53 v52 (at_ v53 v52 fun x74=>(inr v53 v52 (at_ v53 v52 fun x75=>(inr (set_ v53 v52 x73) (w64 (v52 - 1)) (at_ (set_ v53 v52 x73) (w64 (v52 - 1)) fun x76=>z1z_L4 g n v49 v50 v51 (w64 (v52 - 1)) (set_ (set_ v53 v52 x73) (w64 (v52 - 1)) x74) r70 r71 r72 e0)))))))) else e0 v49 v50 v51 v53 r70 r71 r72))))))) else e0 v49 v50 v51 v53 v54 v55 v56)
def z1z_L1 (g:C_z1z):Nat→Int→Int→Int→List G_Spot→Int→Bool→Int→{R:Type}→(List G_Spot→Int→Bool→Int→Option R)→Option R
 | 0,_,_,_,_,_,_,_,_,_=>none
 | n + 1,v7,v8,v9,v10,v11,v12,v13,_,e0=>(bif (decide (v9 < v8)) then (z1z_L4 g g.N v7 v8 v9 v9 v10 v11 v12 v13 (fun e77 e78 e79 e80 e81 e82 e83=>z1z_L1 g n e77 e78 (w64 (e79 + 1)) e80 e81 e82 e83 e0)) else e0 v10 v11 v12 v13)
def z1z_ (g:C_z1z) (a1:List G_Spot) (a2 a3 a4:Int) (a5:Bool) (a6:Int) {R:Type} (k0:List G_Spot→Int→Bool→Int→Option R):Option R :=
 (z1z_L1 g g.N a2 a3 (w64 (a2 + 1)) a1 a4 a5 a6 (fun e84 e85 e86 e87=>k0 e84 e85 e86 e87))
noncomputable def I_z1z [Fuel]:C_z1z:=⟨NN,@z28z _⟩
noncomputable def z1z [Fuel]:T_z1z:=@z1z_ I_z1z
def ysIy (g:T_z1z):Spec A:=fun args=>match args with | [.arr 42 a1,.d (.int .i64 a2),.d (.int .i64 a3),.fn 92 [.box [.fn 89 [.cel [.int .i64 a4] 0,.cel [.bool a5] 0]],.box [.fn 90 [.cel [.int .i64 a6] 0]]]]=>fun k=>g a1 a2 a3 a4 a5 a6 (fun z0 z1 z2 z3=>k (.tup []) [.arr 42 z0,.undef,.undef,.fn 92 [.box [.fn 89 [.cel [.int .i64 z1] 0,.cel [.bool z2] 0]],.box [.fn 90 [.cel [.int .i64 z3] 0]]]]) | _=>fun _=>none
def ynBy:SSt:=mkSh 53 3 [(0,.own 42 0),(1,.int .i64),(2,.int .i64),(3,.fn 92 [.ptr 1 0,.ptr 2 0]),(8,.int .i64),(9,.int .i64)] [(0,.row 42),(1,.box [.fn 89 [.cel [.int .i64] 0,.cel [.bool] 0]]),(2,.box [.fn 90 [.cel [.int .i64] 0]])]
def yhgy (g:C_z1z) (n:Nat):LPT A:=fun ps=>match ps with | [.d (.int .i64 p1),.d (.int .i64 p2),.d (.int .i64 p3),.d (.int .i64 p4),.d (.sl 42 p5),.d (.int .i64 p6),.d (.bool p7),.d (.int .i64 p8)]=>fun K=>z1z_L4 g n p1 p2 p3 p4 p5 p6 p7 p8 (fun z0 z1 z2 z3 z4 z5 z6=>K (.exit 2) (mkSt 53 3 [(0,.own 42 0),(1,.d (.int .i64 z0)),(2,.d (.int .i64 z1)),(3,.fn 92 [.ptr 1 0,.ptr 2 0]),(8,.d (.int .i64 z2))] [(0,some (.row 42 z3)),(1,some (.box [.fn 89 [.cel [.int .i64 z4] 0,.cel [.bool z5] 0]])),(2,some (.box [.fn 90 [.cel [.int .i64 z6] 0]]))])) | _=>fun _=>none
def ym0y:SSt:=mkSh 53 3 [(0,.own 42 0),(1,.int .i64),(2,.int .i64),(3,.fn 92 [.ptr 1 0,.ptr 2 0]),(8,.int .i64)] [(0,.row 42),(1,.box [.fn 89 [.cel [.int .i64] 0,.cel [.bool] 0]]),(2,.box [.fn 90 [.cel [.int .i64] 0]])]
def yg8y (g:C_z1z) (n:Nat):LPT A:=fun ps=>match ps with | [.d (.int .i64 p1),.d (.int .i64 p2),.d (.int .i64 p3),.d (.sl 42 p4),.d (.int .i64 p5),.d (.bool p6),.d (.int .i64 p7)]=>fun K=>z1z_L1 g n p1 p2 p3 p4 p5 p6 p7 (fun z0 z1 z2 z3=>K (.exit 0) (mkSt 53 3 [(0,.own 42 0),(3,.fn 92 [.ptr 1 0,.ptr 2 0])] [(0,some (.row 42 z0)),(1,some (.box [.fn 89 [.cel [.int .i64 z1] 0,.cel [.bool z2] 0]])),(2,some (.box [.fn 90 [.cel [.int .i64 z3] 0]]))])) | _=>fun _=>none
noncomputable def E_z1z (g:C_z1z):Env A:=mkE [(92,yowy g.z28z)] [] [(4,⟨[0,1,2,3,8,9],[],[0,1,2],[],[],[],[]⟩),(1,⟨[0,1,2,3,8],[],[0,1,2],[],[],[],[]⟩)] [(4,⟨[0,1,2,3,8],[],[0,1,2],[],[],[],[]⟩),(1,⟨[0,3],[],[0,1,2],[],[],[],[]⟩)] [(4,yafy ynBy (yhgy g g.N)),(1,yafy ym0y (yg8y g g.N))] [] [] [] [] [0,3]
theorem yFEy [Fuel]:yahy (E_z1z I_z1z).C:=ct_of (P:=Tryz.prog) (T:=T) (.cons yA0y .nil) (by kernel_rfl)
noncomputable def yuOy:Code:=sub [1,0,0,1,0,0,1,0,0] ycXy
theorem yHMy (g:C_z1z) (n:Nat):yaky (E_z1z g) g.N yuOy ynBy (yhgy g) n:=by intro ps; unfold yhgy; split; exact .inr fun R K=>(by kernel_rfl); exact .inl fun R K=>rfl
theorem yujy [Fuel]:yacy (E_z1z I_z1z) NN yuOy:=yaey ynBy (yhgy I_z1z) (by kernel_rfl) yFEy (cuts0 (fun _=>rfl) (by kernel_rfl)) (fun ps R K=>by unfold yhgy; split <;> (try unfold z1z_L4) <;> rfl) (yHMy I_z1z)
noncomputable def yuay:Code:=sub [1,0,0] ycXy
theorem yIey (g:C_z1z) (n:Nat):yaky (E_z1z g) g.N yuay ym0y (yg8y g) n:=by intro ps; unfold yg8y; split; exact .inr fun R K=>(by kernel_rfl); exact .inl fun R K=>rfl
theorem yFUy [Fuel]:yacy (E_z1z I_z1z) NN yuay:=yaey ym0y (yg8y I_z1z) (by kernel_rfl) yFEy (cutsL (fun _=>rfl) (.cons yujy .nil) (by kernel_rfl)) (fun ps R K=>by unfold yg8y; split <;> (try unfold z1z_L1) <;> rfl) (yIey I_z1z)
theorem yNMy (g:C_z1z):Same (ysIy (@z1z_ g)) (abody (E_z1z g) Tryz.f128 ycXy 3 [0,1,2] [] g.N):=by intro args; unfold ysIy; split; exact .inr fun R k=>(by kernel_rfl); exact .inl fun R k=>rfl
theorem yFAy [Fuel]:Ok 128 (ysIy (@z1z _)):=yaay std (.cons yA0y .nil) ⟨rfl,rfl,by kernel_rfl,rfl,rfl,rfl⟩ (yNMy I_z1z) (cutsL (fun _=>rfl) (.cons yujy (.cons yFUy .nil)) (by kernel_rfl)) Tryz.func128 (by kernel_rfl) (by kernel_rfl)
abbrev T_z0z:Type 1:=List G_Spot→Int→Int→Bool→Int→{R:Type}→(List G_Spot→Int→Bool→Int→Option R)→Option R
structure C_z0z where
 N:Nat
 z1z:T_z1z
def z0z_L2 (g:C_z0z):Nat→Int→Int→Int→Int→List G_Spot→Int→Bool→Int→{R:Type}→(Int→Int→Int→List G_Spot→Int→Bool→Int→Option R)→Option R
 | 0,_,_,_,_,_,_,_,_,_,_=>none
 | n + 1,v6,v7,v8,v9,v10,v11,v12,v13,_,e0=>(bif (decide (v9≤v6)) then (g.z1z v10 v8 v9 v11 v12 v13 (fun r18 r19 r20 r21=>z0z_L2 g n v6 v7 v9 (w64 (v9 + v7)) r18 r19 r20 r21 e0)) else e0 v6 v7 v8 v10 v11 v12 v13)
def z0z_L9 (g:C_z0z):Nat→Int→Int→Int→Int→List G_Spot→Int→Bool→Int→{R:Type}→(Int→Int→Int→List G_Spot→Int→Bool→Int→Option R)→Option R
 | 0,_,_,_,_,_,_,_,_,_,_=>none
 | n + 1,v54,v55,v56,v57,v58,v59,v60,v61,_,e0=>(bif (decide (v57≤v54)) then none else e0 v54 v55 v56 v58 v59 v60 v61)
def z0z_L7 (g:C_z0z):Nat→Int→Int→List G_Spot→Int→Bool→Int→{R:Type}→(List G_Spot→Int→Bool→Int→Option R)→Option R
 | 0,_,_,_,_,_,_,_,_=>none
 | n + 1,v33,v34,v35,v36,v37,v38,_,e0=>(bif (decide (v34 < v33)) then (z0z_L9 g g.N v33 v34 0 (w64 (2 * v34)) v35 v36 v37 v38 (fun e62 e63 e64 e65 e66 e67 e68=>(bif (decide ((w64 (e64 + e63)) < e62)) then none else z0z_L7 g n e62 (w64 (e63 * 2)) e65 e66 e67 e68 e0))) else e0 v35 v36 v37 v38)
def z0z_ (g:C_z0z) (a1:List G_Spot) (a2 a3:Int) (a4:Bool) (a5:Int) {R:Type} (k0:List G_Spot→Int→Bool→Int→Option R):Option R :=
 (z0z_L2 g g.N a2 20 0 20 a1 a3 a4 a5 (fun e22 e23 e24 e25 e26 e27 e28=>(g.z1z e25 e24 e22 e26 e27 e28 (fun r29 r30 r31 r32=>(z0z_L7 g g.N e22 e23 r29 r30 r31 r32 (fun e69 e70 e71 e72=>k0 e69 e70 e71 e72))))))
noncomputable def I_z0z [Fuel]:C_z0z:=⟨NN,@z1z _⟩
noncomputable def z0z [Fuel]:T_z0z:=@z0z_ I_z0z
def yroy (g:T_z0z):Spec A:=fun args=>match args with | [.arr 42 a1,.d (.int .i64 a2),.fn 92 [.box [.fn 89 [.cel [.int .i64 a3] 0,.cel [.bool a4] 0]],.box [.fn 90 [.cel [.int .i64 a5] 0]]]]=>fun k=>g a1 a2 a3 a4 a5 (fun z0 z1 z2 z3=>k (.tup []) [.arr 42 z0,.undef,.fn 92 [.box [.fn 89 [.cel [.int .i64 z1] 0,.cel [.bool z2] 0]],.box [.fn 90 [.cel [.int .i64 z3] 0]]]]) | _=>fun _=>none
def ym9y:SSt:=mkSh 63 3 [(0,.own 42 0),(1,.int .i64),(2,.fn 92 [.ptr 1 0,.ptr 2 0]),(6,.int .i64),(7,.int .i64),(8,.int .i64)] [(0,.row 42),(1,.box [.fn 89 [.cel [.int .i64] 0,.cel [.bool] 0]]),(2,.box [.fn 90 [.cel [.int .i64] 0]])]
def yg7y (g:C_z0z) (n:Nat):LPT A:=fun ps=>match ps with | [.d (.int .i64 p1),.d (.int .i64 p2),.d (.int .i64 p3),.d (.int .i64 p4),.d (.sl 42 p5),.d (.int .i64 p6),.d (.bool p7),.d (.int .i64 p8)]=>fun K=>z0z_L2 g n p1 p2 p3 p4 p5 p6 p7 p8 (fun z0 z1 z2 z3 z4 z5 z6=>K (.exit 0) (mkSt 63 3 [(0,.own 42 0),(1,.d (.int .i64 z0)),(2,.fn 92 [.ptr 1 0,.ptr 2 0]),(6,.d (.int .i64 z1)),(7,.d (.int .i64 z2))] [(0,some (.row 42 z3)),(1,some (.box [.fn 89 [.cel [.int .i64 z4] 0,.cel [.bool z5] 0]])),(2,some (.box [.fn 90 [.cel [.int .i64 z6] 0]]))])) | _=>fun _=>none
def ym4y:SSt:=mkSh 63 3 [(0,.own 42 0),(1,.int .i64),(2,.fn 92 [.ptr 1 0,.ptr 2 0]),(6,.int .i64),(7,.int .i64),(8,.int .i64)] [(0,.row 42),(1,.box [.fn 89 [.cel [.int .i64] 0,.cel [.bool] 0]]),(2,.box [.fn 90 [.cel [.int .i64] 0]])]
def ygWy (g:C_z0z) (n:Nat):LPT A:=fun ps=>match ps with | [.d (.int .i64 p1),.d (.int .i64 p2),.d (.int .i64 p3),.d (.int .i64 p4),.d (.sl 42 p5),.d (.int .i64 p6),.d (.bool p7),.d (.int .i64 p8)]=>fun K=>z0z_L9 g n p1 p2 p3 p4 p5 p6 p7 p8 (fun z0 z1 z2 z3 z4 z5 z6=>K (.exit 4) (mkSt 63 3 [(0,.own 42 0),(1,.d (.int .i64 z0)),(2,.fn 92 [.ptr 1 0,.ptr 2 0]),(6,.d (.int .i64 z1)),(7,.d (.int .i64 z2))] [(0,some (.row 42 z3)),(1,some (.box [.fn 89 [.cel [.int .i64 z4] 0,.cel [.bool z5] 0]])),(2,some (.box [.fn 90 [.cel [.int .i64 z6] 0]]))])) | _=>fun _=>none
def ymAy:SSt:=mkSh 63 3 [(0,.own 42 0),(1,.int .i64),(2,.fn 92 [.ptr 1 0,.ptr 2 0]),(6,.int .i64)] [(0,.row 42),(1,.box [.fn 89 [.cel [.int .i64] 0,.cel [.bool] 0]]),(2,.box [.fn 90 [.cel [.int .i64] 0]])]
def ygZy (g:C_z0z) (n:Nat):LPT A:=fun ps=>match ps with | [.d (.int .i64 p1),.d (.int .i64 p2),.d (.sl 42 p3),.d (.int .i64 p4),.d (.bool p5),.d (.int .i64 p6)]=>fun K=>z0z_L7 g n p1 p2 p3 p4 p5 p6 (fun z0 z1 z2 z3=>K (.exit 2) (mkSt 63 3 [(0,.own 42 0),(2,.fn 92 [.ptr 1 0,.ptr 2 0])] [(0,some (.row 42 z0)),(1,some (.box [.fn 89 [.cel [.int .i64 z1] 0,.cel [.bool z2] 0]])),(2,some (.box [.fn 90 [.cel [.int .i64 z3] 0]]))])) | _=>fun _=>none
noncomputable def E_z0z (g:C_z0z):Env A:=mkE [(128,ysIy g.z1z)] [] [(2,⟨[0,1,2,6,7,8],[],[0,1,2],[],[],[],[]⟩),(9,⟨[0,1,2,6,7,8],[],[0,1,2],[],[],[],[]⟩),(7,⟨[0,1,2,6],[],[0,1,2],[],[],[],[]⟩)] [(2,⟨[0,1,2,6,7],[],[0,1,2],[],[],[],[]⟩),(9,⟨[0,1,2,6,7],[],[0,1,2],[],[],[],[]⟩),(7,⟨[0,2],[],[0,1,2],[],[],[],[]⟩)] [(2,yafy ym9y (yg7y g g.N)),(9,yafy ym4y (ygWy g g.N)),(7,yafy ymAy (ygZy g g.N))] [] [] [] [(128,0)] [0,2]
theorem yzgy [Fuel]:yahy (E_z0z I_z0z).C:=ct_of (P:=Tryz.prog) (T:=T) (.cons yFAy .nil) (by kernel_rfl)
noncomputable def yusy:Code:=sub [1,1,0,0,0] yciy
theorem yIHy (g:C_z0z) (n:Nat):yaky (E_z0z g) g.N yusy ym9y (yg7y g) n:=by intro ps; unfold yg7y; split; exact .inr fun R K=>(by kernel_rfl); exact .inl fun R K=>rfl
theorem yENy [Fuel]:yacy (E_z0z I_z0z) NN yusy:=yaey ym9y (yg7y I_z0z) (by kernel_rfl) yzgy (cuts0 (fun _=>rfl) (by kernel_rfl)) (fun ps R K=>by unfold yg7y; split <;> (try unfold z0z_L2) <;> rfl) (yIHy I_z0z)
noncomputable def yuly:Code:=sub [1,1,1,1,0,0,1,0,1,0,0,0] yciy
theorem yIDy (g:C_z0z) (n:Nat):yaky (E_z0z g) g.N yuly ym4y (ygWy g) n:=by intro ps; unfold ygWy; split; exact .inr fun R K=>(by kernel_rfl); exact .inl fun R K=>rfl
theorem yuny [Fuel]:yacy (E_z0z I_z0z) NN yuly:=yaey ym4y (ygWy I_z0z) (by kernel_rfl) yzgy (cuts0 (fun _=>rfl) (by kernel_rfl)) (fun ps R K=>by unfold ygWy; split <;> (try unfold z0z_L9) <;> rfl) (yIDy I_z0z)
noncomputable def ytZy:Code:=sub [1,1,1,1,0,0] yciy
theorem yHDy (g:C_z0z) (n:Nat):yaky (E_z0z g) g.N ytZy ymAy (ygZy g) n:=by intro ps; unfold ygZy; split; exact .inr fun R K=>(by kernel_rfl); exact .inl fun R K=>rfl
theorem yF8y [Fuel]:yacy (E_z0z I_z0z) NN ytZy:=yaey ymAy (ygZy I_z0z) (by kernel_rfl) yzgy (cutsL (fun _=>rfl) (.cons yuny .nil) (by kernel_rfl)) (fun ps R K=>by unfold ygZy; split <;> (try unfold z0z_L7) <;> rfl) (yHDy I_z0z)
theorem yNBy (g:C_z0z):Same (yroy (@z0z_ g)) (abody (E_z0z g) Tryz.f79 yciy 3 [0,1,2] [] g.N):=by intro args; unfold yroy; split; exact .inr fun R k=>(by kernel_rfl); exact .inl fun R k=>rfl
theorem yNvy [Fuel]:Ok 79 (yroy (@z0z _)):=yaay std (.cons yFAy .nil) ⟨rfl,rfl,by kernel_rfl,rfl,rfl,rfl⟩ (yNBy I_z0z) (cutsL (fun _=>rfl) (.cons yENy (.cons yuny (.cons yF8y .nil))) (by kernel_rfl)) Tryz.func79 (by kernel_rfl) (by kernel_rfl)
abbrev yv8y:Type 1:=List G_Spot→Int→Bool→Int→{R:Type}→(List G_Spot→Int→Bool→Int→Option R)→Option R
structure C_z12z where
 N:Nat
 z0z:T_z0z
def z12z_ (g:C_z12z) (a1:List G_Spot) (a2:Int) (a3:Bool) (a4:Int) {R:Type} (k0:List G_Spot→Int→Bool→Int→Option R):Option R :=
 (g.z0z a1 (a1.length:Int) a2 a3 a4 (fun r5 r6 r7 r8=>k0 r5 r6 r7 r8))
noncomputable def yxfy [Fuel]:C_z12z:=⟨NN,@z0z _⟩
noncomputable def z12z [Fuel]:yv8y:=@z12z_ yxfy
def yoEy (g:yv8y):Spec A:=fun args=>match args with | [.arr 42 a1,.fn 92 [.box [.fn 89 [.cel [.int .i64 a2] 0,.cel [.bool a3] 0]],.box [.fn 90 [.cel [.int .i64 a4] 0]]]]=>fun k=>g a1 a2 a3 a4 (fun z0 z1 z2 z3=>k (.tup []) [.arr 42 z0,.fn 92 [.box [.fn 89 [.cel [.int .i64 z1] 0,.cel [.bool z2] 0]],.box [.fn 90 [.cel [.int .i64 z3] 0]]]]) | _=>fun _=>none
noncomputable def yOwy (g:C_z12z):Env A:=mkE [(79,yroy g.z0z)] [] [] [] [] [] [] [] [(79,0)] [0,1]
theorem yKCy (g:C_z12z):Same (yoEy (@z12z_ g)) (abody (yOwy g) Tryz.f38 ytBy 3 [0,1,2] [] g.N):=by intro args; unfold yoEy; split; exact .inr fun R k=>(by kernel_rfl); exact .inl fun R k=>rfl
theorem yBcy [Fuel]:Ok 38 (yoEy (@z12z _)):=yaay std (.cons yNvy .nil) ⟨rfl,rfl,by kernel_rfl,rfl,rfl,rfl⟩ (yKCy yxfy) (cuts0 (fun _=>rfl) (by kernel_rfl)) Tryz.func38 (by kernel_rfl) (by kernel_rfl)
abbrev ylSy:Type 1:=List G_Spot→Int→Bool→{R:Type}→(List (List UInt8)→Option R)→Option R
structure C_band_way where
 N:Nat
 z12z:yv8y
 z88z:yxiy
def ycwy (g:C_band_way):Nat→Int→Int→List G_Spot→List (List UInt8)→{R:Type}→(List (List UInt8)→Option R)→Option R
 | 0,_,_,_,_,_,_=>none
 | n + 1,v9,v10,v11,v12,_,e0=>(bif (decide (v10 < v9)) then (inr v11 v10 (at_ v11 v10 fun x14=>(bif (decide ((v12.length + [x14.f_Call].length) * 16≤yaly)) then ycwy g n v9 (w64 (v10 + 1)) v11 (v12 ++ [x14.f_Call]) e0 else none))) else e0 v12)
def yuIy (g:C_band_way) (a1:List G_Spot) (a2:Int) (a3:Bool) {R:Type} (k0:List (List UInt8)→Option R):Option R :=
 (g.z88z a1 (fun r4=>(g.z12z r4 a2 a3 a2 (fun r5 r6 r7 r8=>(ycwy g g.N (r5.length:Int) 0 r5 [] (fun e15=>k0 e15))))))
noncomputable def yc1y [Fuel]:C_band_way:=⟨NN,@z12z _,@z88z _⟩
noncomputable def band_way [Fuel]:ylSy:=@yuIy yc1y
def ygFy (g:ylSy):Spec A:=fun args=>match args with | [.d (.sl 42 a1),.d (.int .i64 a2),.d (.bool a3)]=>fun k=>g a1 a2 a3 (fun z0=>k (.arr 9 z0) [.undef,.undef,.undef]) | _=>fun _=>none
def ygpy:SSt:=mkSh 33 9 [(10,.own 9 5),(20,.own 42 4),(21,.int .i64),(22,.int .i64)] [(4,.row 42),(5,.row 9)]
def ycLy (g:C_band_way) (n:Nat):LPT A:=fun ps=>match ps with | [.d (.int .i64 p1),.d (.int .i64 p2),.d (.sl 42 p3),.d (.sl 9 p4)]=>fun K=>ycwy g n p1 p2 p3 p4 (fun z0=>K (.exit 0) (mkSt 33 9 [(10,.own 9 5)] [(5,some (.row 9 z0))])) | _=>fun _=>none
noncomputable def yA8y:Code:=(Tryz.f48.body).getD .skip
noncomputable def yhKy (g:C_band_way):Env A:=mkE [(38,yoEy g.z12z),(91,yjYy g.z88z)] [(4,[0]),(5,[1]),(7,[2]),(8,[3]),(12,[6]),(16,[4]),(29,[7]),(30,[8])] [(7,⟨[10,20,21,22],[(10,9,5)],[4],[],[],[],[]⟩)] [(7,⟨[10],[],[5],[],[],[],[]⟩)] [(7,yafy ygpy (ycLy g g.N))] [(4,⟨[7,8,9],[],[2,3,4],[],[],[],[0,1]⟩)] [] [] [(38,0)] []
theorem yAay [Fuel]:yahy (yhKy yc1y).C:=ct_of (P:=Tryz.prog) (T:=T) (.cons yBcy (.cons yBPy .nil)) (by kernel_rfl)
noncomputable def ykby:Code:=sub [1,1,1,1,1,1,0,1,0,0] yA8y
theorem yvjy (g:C_band_way) (n:Nat):yaky (yhKy g) g.N ykby ygpy (ycLy g) n:=by intro ps; unfold ycLy; split; exact .inr fun R K=>(by kernel_rfl); exact .inl fun R K=>rfl
theorem ytny [Fuel]:yacy (yhKy yc1y) NN ykby:=yaey ygpy (ycLy yc1y) (by kernel_rfl) yAay (cuts0 (fun _=>rfl) (by kernel_rfl)) (fun ps R K=>by unfold ycLy; split <;> (try unfold ycwy) <;> rfl) (yvjy yc1y)
theorem yzUy (g:C_band_way):Same (ygFy (@yuIy g)) (abody (yhKy g) Tryz.f48 yA8y 9 [] [.arr 9] g.N):=by intro args; unfold ygFy; split; exact .inr fun R k=>(by kernel_rfl); exact .inl fun R k=>rfl
theorem ypBy [Fuel]:Ok 48 (ygFy (@band_way _)):=yaay std (.cons yBcy (.cons yBPy .nil)) ⟨rfl,rfl,by kernel_rfl,rfl,rfl,rfl⟩ (yzUy yc1y) (cutsL (fun _=>rfl) (.cons ytny .nil) (by kernel_rfl)) Tryz.func48 (by kernel_rfl) (by kernel_rfl)
abbrev yh8y:Type 1:=List G_Band→List G_Spot→Int→Int→Int→{R:Type}→(List (List UInt8)→Int→Int→Option R)→Option R
structure C_band_Sweep where
 N:Nat
 z57z:yjFy
 z56z:yjBy
 band_heard:ycJy
 band_way:ylSy
def ybzy (g:C_band_Sweep):Nat→Int→Int→Int→Int→Int→List G_Spot→{R:Type}→(Int→Int→Int→List G_Spot→Option R)→Option R
 | 0,_,_,_,_,_,_,_,_=>none
 | n + 1,v10,v11,v12,v13,v14,v15,_,e0=>(bif (decide (v14 < v13)) then (inr v15 v14 (at_ v15 v14 fun x17=>ybzy g n v10 (if (w64 (v10 - x17.f_Hertz)) > v11 then (w64 (v10 - x17.f_Hertz)) else v11) (if (w64 (x17.f_Hertz - v10)) > v12 then (w64 (x17.f_Hertz - v10)) else v12) v13 (w64 (v14 + 1)) v15 e0)) else e0 v10 v11 v12 v15)
def yjgy (g:C_band_Sweep) (a1:List G_Band) (a2:List G_Spot) (a3 a4 a5:Int) {R:Type} (k0:List (List UInt8)→Int→Int→Option R):Option R :=
 (g.z57z a1 a2 (fun r6=>(bif (r6 != 0) then k0 [] 0 r6 else (g.z56z a3 a4 a5 (fun r7=>(bif (r7 != 0) then k0 [] 0 r7 else (g.band_heard a1 a2 a3 a4 (fun r8 r9=>(ybzy g g.N a5 0 0 (r8.length:Int) 0 r8 (fun e18 e19 e20 e21=>(bif (e20 == 0) then (bif (e19 == 0) then (bif (decide (e19≤e20)) then (g.band_way e21 e18 true (fun r22=>k0 r22 e19 0)) else (g.band_way e21 e18 false (fun r23=>k0 r23 e20 0))) else (bif (decide (e19≤(w64 ((w64 (2 * e20)) + e19)))) then (g.band_way e21 e18 true (fun r24=>k0 r24 e19 0)) else (g.band_way e21 e18 false (fun r25=>k0 r25 (w64 ((w64 (2 * e20)) + e19)) 0)))) else (bif (e19 == 0) then (bif (decide ((w64 ((w64 (2 * e19)) + e20))≤e20)) then (g.band_way e21 e18 true (fun r26=>k0 r26 (w64 ((w64 (2 * e19)) + e20)) 0)) else (g.band_way e21 e18 false (fun r27=>k0 r27 e20 0))) else (bif (decide ((w64 ((w64 (2 * e19)) + e20))≤(w64 ((w64 (2 * e20)) + e19)))) then (g.band_way e21 e18 true (fun r28=>k0 r28 (w64 ((w64 (2 * e19)) + e20)) 0)) else (g.band_way e21 e18 false (fun r29=>k0 r29 (w64 ((w64 (2 * e20)) + e19)) 0)))))))))))))))
noncomputable def ybsy [Fuel]:C_band_Sweep:=⟨NN,@z57z _,@z56z _,@band_heard _,@band_way _⟩
noncomputable def band_Sweep [Fuel]:yh8y:=@yjgy ybsy
def yejy (g:yh8y):Spec A:=fun args=>match args with | [.d (.sl 62 a1),.d (.sl 42 a2),.d (.int .i64 a3),.d (.int .i64 a4),.d (.int .i64 a5)]=>fun k=>g a1 a2 a3 a4 a5 (fun z0 z1 z2=>k (.tup [.arr 9 z0,.d (.int .i64 z1),.d (.int .i64 z2)]) [.undef,.undef,.undef,.undef,.undef]) | _=>fun _=>none
def ydUy:SSt:=mkSh 88 5 [(4,.int .i64),(15,.own 42 0),(17,.int .i64),(18,.int .i64),(44,.own 42 0),(45,.int .i64),(46,.int .i64)] [(0,.row 42)]
def yb4y (g:C_band_Sweep) (n:Nat):LPT A:=fun ps=>match ps with | [.d (.int .i64 p1),.d (.int .i64 p2),.d (.int .i64 p3),.d (.int .i64 p4),.d (.int .i64 p5),.d (.sl 42 p6)]=>fun K=>ybzy g n p1 p2 p3 p4 p5 p6 (fun z0 z1 z2 z3=>K (.exit 0) (mkSt 88 5 [(4,.d (.int .i64 z0)),(15,.own 42 0),(17,.d (.int .i64 z1)),(18,.d (.int .i64 z2))] [(0,some (.row 42 z3))])) | _=>fun _=>none
noncomputable def yB3y:Code:=(Tryz.f18.body).getD .skip
noncomputable def yfSy (g:C_band_Sweep):Env A:=mkE [(31,ygby g.z57z),(34,ygly g.z56z),(36,yaTy g.band_heard),(48,ygFy g.band_way)] [(20,[2]),(41,[0,1]),(82,[3]),(86,[4])] [(10,⟨[4,15,17,18,44,45,46],[],[0],[],[],[],[]⟩)] [(10,⟨[4,15,17,18],[],[0],[],[],[],[]⟩)] [(10,yafy ydUy (yb4y g g.N))] [] [] [] [] []
theorem yvsy [Fuel]:yahy (yfSy ybsy).C:=ct_of (P:=Tryz.prog) (T:=T) (.cons ygiy (.cons yf7y (.cons yb1y (.cons ypBy .nil)))) (by kernel_rfl)
noncomputable def yhwy:Code:=sub [1,1,1,1,1,0,1,0,0] yB3y
theorem yqqy (g:C_band_Sweep) (n:Nat):yaky (yfSy g) g.N yhwy ydUy (yb4y g) n:=by intro ps; unfold yb4y; split; exact .inr fun R K=>(by kernel_rfl); exact .inl fun R K=>rfl
theorem yo8y [Fuel]:yacy (yfSy ybsy) NN yhwy:=yaey ydUy (yb4y ybsy) (by kernel_rfl) yvsy (cuts0 (fun _=>rfl) (by kernel_rfl)) (fun ps R K=>by unfold yb4y; split <;> (try unfold ybzy) <;> rfl) (yqqy ybsy)
theorem yvoy (g:C_band_Sweep):Same (yejy (@yjgy g)) (abody (yfSy g) Tryz.f18 yB3y 5 [] [.arr 9,.asis,.asis] g.N):=by intro args; unfold yejy; split; exact .inr fun R k=>(by kernel_rfl); exact .inl fun R k=>rfl
theorem yl9y [Fuel]:Ok 18 (yejy (@band_Sweep _)):=yaay std (.cons ygiy (.cons yf7y (.cons yb1y (.cons ypBy .nil)))) ⟨rfl,rfl,by kernel_rfl,rfl,rfl,rfl⟩ (yvoy ybsy) (cutsL (fun _=>rfl) (.cons yo8y .nil) (by kernel_rfl)) Tryz.func18 (by kernel_rfl) (by kernel_rfl)
end Go.Am
