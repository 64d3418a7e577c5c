/- The functions of the program as Lean functions, each shown to be what the code computes, part 6. No condition: lemmas for the claim. -/
import Derived.Test.YtnlblmnoiepeaaaGreatDoorF0
import Derived.Test.YtnlblmnoiepeaaaGreatDoorFSh
import Derived.Test.YtnlblmnoiepeaaaGreatDoorF2
import Derived.Test.YtnlblmnoiepeaaaGreatDoorF5
set_option linter.unusedVariables false
set_option maxRecDepth 100000
namespace Go.Am
open Go Go.Proofs
abbrev yx0y:Type 1:=G_Spot→G_Spot→Int→{R:Type}→(Int→Int→Option R)→Option R
structure C_z58z where
 N:Nat
 z103z:ytDy
def z58z_ (g:C_z58z) (a1 a2:G_Spot) (a3:Int) {R:Type} (k0:Int→Int→Option R):Option R :=
 (g.z103z a1 a3 (fun r4=>(g.z103z a2 a3 (fun r5=>k0 (w64 (r4 - r5)) a3))))
noncomputable def yD3y [Fuel]:C_z58z:=⟨NN,@z103z _⟩
noncomputable def z58z [Fuel]:yx0y:=@z58z_ yD3y
def ynWy (g:yx0y):Spec A:=fun args=>match args with | [.agg [.d (.int .i64 a1),.d (.int .i64 a2),.d (.str a3),.d (.str a4)],.agg [.d (.int .i64 a5),.d (.int .i64 a6),.d (.str a7),.d (.str a8)],.box [.fn 37 [.cel [.int .i64 a9] 0]]]=>fun k=>g ⟨a1,a2,a3,a4⟩ ⟨a5,a6,a7,a8⟩ a9 (fun z0 z1=>k (.d (.int .i64 z0)) [.undef,.undef,.box [.fn 37 [.cel [.int .i64 z1] 0]]]) | _=>fun _=>none
noncomputable def yLyy:Code:=(Tryz.f39.body).getD .skip
noncomputable def yNgy (g:C_z58z):Env A:=mkE [(37,ykLy g.z103z)] [(3,[1]),(4,[2])] [] [] [] [] [] [] [] [2]
theorem yM1y (g:C_z58z):Same (ynWy (@z58z_ g)) (abody (yNgy g) Tryz.f39 yLyy 3 [0] [.asis] g.N):=by intro args; unfold ynWy; split; exact .inr fun R k=>(by kernel_rfl); exact .inl fun R k=>rfl
theorem yAqy [Fuel]:Ok 39 (ynWy (@z58z _)):=yaay std (.cons yG6y .nil) ⟨rfl,rfl,by kernel_rfl,rfl,rfl,rfl⟩ (yM1y yD3y) (cuts0 (fun _=>rfl) (by kernel_rfl)) Tryz.func39 (by kernel_rfl) (by kernel_rfl)
abbrev T_z3z:Type 1:=List G_Spot→Int→Int→Int→{R:Type}→(List G_Spot→Int→Option R)→Option R
structure C_z3z where
 N:Nat
 z58z:yx0y
def z3z_L4 (g:C_z3z):Nat→Int→Int→Int→Int→List G_Spot→Int→{R:Type}→(Int→Int→Int→List G_Spot→Int→Option R)→Option R
 | 0,_,_,_,_,_,_,_,_=>none
 | n + 1,v37,v38,v39,v40,v41,v42,_,e0=>(bif (decide (v40 > v37)) then (inr v41 v40 (at_ v41 v40 fun x51=>(inr v41 (w64 (v40 - 1)) (at_ v41 (w64 (v40 - 1)) fun x52=>(g.z58z x51 x52 v42 (fun r53 r54=>(bif (decide (r53 < 0)) then (inr v41 (w64 (v40 - 1)) (at_ v41 (w64 (v40 - 1)) fun x55=>(inr v41 v40 (at_ v41 v40 fun x56=>(inr v41 v40 (at_ v41 v40 fun x57=>(inr (set_ v41 v40 x55) (w64 (v40 - 1)) (at_ (set_ v41 v40 x55) (w64 (v40 - 1)) fun x58=>z3z_L4 g n v37 v38 v39 (w64 (v40 - 1)) (set_ (set_ v41 v40 x55) (w64 (v40 - 1)) x56) r54 e0)))))))) else e0 v37 v38 v39 v41 r54))))))) else e0 v37 v38 v39 v41 v42)
def z3z_L1 (g:C_z3z):Nat→Int→Int→Int→List G_Spot→Int→{R:Type}→(List G_Spot→Int→Option R)→Option R
 | 0,_,_,_,_,_,_,_=>none
 | n + 1,v5,v6,v7,v8,v9,_,e0=>(bif (decide (v7 < v6)) then (z3z_L4 g g.N v5 v6 v7 v7 v8 v9 (fun e59 e60 e61 e62 e63=>z3z_L1 g n e59 e60 (w64 (e61 + 1)) e62 e63 e0)) else e0 v8 v9)
def z3z_ (g:C_z3z) (a1:List G_Spot) (a2 a3 a4:Int) {R:Type} (k0:List G_Spot→Int→Option R):Option R :=
 (z3z_L1 g g.N a2 a3 (w64 (a2 + 1)) a1 a4 (fun e64 e65=>k0 e64 e65))
noncomputable def I_z3z [Fuel]:C_z3z:=⟨NN,@z58z _⟩
noncomputable def z3z [Fuel]:T_z3z:=@z3z_ I_z3z
def ysJy (g:T_z3z):Spec A:=fun args=>match args with | [.arr 42 a1,.d (.int .i64 a2),.d (.int .i64 a3),.fn 39 [.box [.fn 37 [.cel [.int .i64 a4] 0]]]]=>fun k=>g a1 a2 a3 a4 (fun z0 z1=>k (.tup []) [.arr 42 z0,.undef,.undef,.fn 39 [.box [.fn 37 [.cel [.int .i64 z1] 0]]]]) | _=>fun _=>none
def ynvy:SSt:=mkSh 53 2 [(0,.own 42 0),(1,.int .i64),(2,.int .i64),(3,.fn 39 [.ptr 1 0]),(8,.int .i64),(9,.int .i64)] [(0,.row 42),(1,.box [.fn 37 [.cel [.int .i64] 0]])]
def yhjy (g:C_z3z) (n:Nat):LPT A:=fun ps=>match ps with | [.d (.int .i64 p1),.d (.int .i64 p2),.d (.int .i64 p3),.d (.int .i64 p4),.d (.sl 42 p5),.d (.int .i64 p6)]=>fun K=>z3z_L4 g n p1 p2 p3 p4 p5 p6 (fun z0 z1 z2 z3 z4=>K (.exit 2) (mkSt 53 2 [(0,.own 42 0),(1,.d (.int .i64 z0)),(2,.d (.int .i64 z1)),(3,.fn 39 [.ptr 1 0]),(8,.d (.int .i64 z2))] [(0,some (.row 42 z3)),(1,some (.box [.fn 37 [.cel [.int .i64 z4] 0]]))])) | _=>fun _=>none
def ynCy:SSt:=mkSh 53 2 [(0,.own 42 0),(1,.int .i64),(2,.int .i64),(3,.fn 39 [.ptr 1 0]),(8,.int .i64)] [(0,.row 42),(1,.box [.fn 37 [.cel [.int .i64] 0]])]
def ygSy (g:C_z3z) (n:Nat):LPT A:=fun ps=>match ps with | [.d (.int .i64 p1),.d (.int .i64 p2),.d (.int .i64 p3),.d (.sl 42 p4),.d (.int .i64 p5)]=>fun K=>z3z_L1 g n p1 p2 p3 p4 p5 (fun z0 z1=>K (.exit 0) (mkSt 53 2 [(0,.own 42 0),(3,.fn 39 [.ptr 1 0])] [(0,some (.row 42 z0)),(1,some (.box [.fn 37 [.cel [.int .i64 z1] 0]]))])) | _=>fun _=>none
noncomputable def E_z3z (g:C_z3z):Env A:=mkE [(39,ynWy g.z58z)] [] [(4,⟨[0,1,2,3,8,9],[],[0,1],[],[],[],[]⟩),(1,⟨[0,1,2,3,8],[],[0,1],[],[],[],[]⟩)] [(4,⟨[0,1,2,3,8],[],[0,1],[],[],[],[]⟩),(1,⟨[0,3],[],[0,1],[],[],[],[]⟩)] [(4,yafy ynvy (yhjy g g.N)),(1,yafy ynCy (ygSy g g.N))] [] [] [] [] [0,3]
theorem yEiy [Fuel]:yahy (E_z3z I_z3z).C:=ct_of (P:=Tryz.prog) (T:=T) (.cons yAqy .nil) (by kernel_rfl)
noncomputable def yuVy:Code:=sub [1,0,0,1,0,0,1,0,0] ycXy
theorem yGOy (g:C_z3z) (n:Nat):yaky (E_z3z g) g.N yuVy ynvy (yhjy g) n:=by intro ps; unfold yhjy; split; exact .inr fun R K=>(by kernel_rfl); exact .inl fun R K=>rfl
theorem yuty [Fuel]:yacy (E_z3z I_z3z) NN yuVy:=yaey ynvy (yhjy I_z3z) (by kernel_rfl) yEiy (cuts0 (fun _=>rfl) (by kernel_rfl)) (fun ps R K=>by unfold yhjy; split <;> (try unfold z3z_L4) <;> rfl) (yGOy I_z3z)
noncomputable def ytTy:Code:=sub [1,0,0] ycXy
theorem yHgy (g:C_z3z) (n:Nat):yaky (E_z3z g) g.N ytTy ynCy (ygSy g) n:=by intro ps; unfold ygSy; split; exact .inr fun R K=>(by kernel_rfl); exact .inl fun R K=>rfl
theorem yFiy [Fuel]:yacy (E_z3z I_z3z) NN ytTy:=yaey ynCy (ygSy I_z3z) (by kernel_rfl) yEiy (cutsL (fun _=>rfl) (.cons yuty .nil) (by kernel_rfl)) (fun ps R K=>by unfold ygSy; split <;> (try unfold z3z_L1) <;> rfl) (yHgy I_z3z)
theorem yNDy (g:C_z3z):Same (ysJy (@z3z_ g)) (abody (E_z3z g) Tryz.f128 ycXy 2 [0,1] [] g.N):=by intro args; unfold ysJy; split; exact .inr fun R k=>(by kernel_rfl); exact .inl fun R k=>rfl
theorem yFDy [Fuel]:Ok 128 (ysJy (@z3z _)):=yaay std (.cons yAqy .nil) ⟨rfl,rfl,by kernel_rfl,rfl,rfl,rfl⟩ (yNDy I_z3z) (cutsL (fun _=>rfl) (.cons yuty (.cons yFiy .nil)) (by kernel_rfl)) Tryz.func128 (by kernel_rfl) (by kernel_rfl)
abbrev T_z2z:Type 1:=List G_Spot→Int→Int→{R:Type}→(List G_Spot→Int→Option R)→Option R
structure C_z2z where
 N:Nat
 z3z:T_z3z
def z2z_L2 (g:C_z2z):Nat→Int→Int→Int→Int→List G_Spot→Int→{R:Type}→(Int→Int→Int→List G_Spot→Int→Option R)→Option R
 | 0,_,_,_,_,_,_,_,_=>none
 | n + 1,v4,v5,v6,v7,v8,v9,_,e0=>(bif (decide (v7≤v4)) then (g.z3z v8 v6 v7 v9 (fun r12 r13=>z2z_L2 g n v4 v5 v7 (w64 (v7 + v5)) r12 r13 e0)) else e0 v4 v5 v6 v8 v9)
def z2z_L9 (g:C_z2z):Nat→Int→Int→Int→Int→List G_Spot→Int→{R:Type}→(Int→Int→Int→List G_Spot→Int→Option R)→Option R
 | 0,_,_,_,_,_,_,_,_=>none
 | n + 1,v36,v37,v38,v39,v40,v41,_,e0=>(bif (decide (v39≤v36)) then none else e0 v36 v37 v38 v40 v41)
def z2z_L7 (g:C_z2z):Nat→Int→Int→List G_Spot→Int→{R:Type}→(List G_Spot→Int→Option R)→Option R
 | 0,_,_,_,_,_,_=>none
 | n + 1,v21,v22,v23,v24,_,e0=>(bif (decide (v22 < v21)) then (z2z_L9 g g.N v21 v22 0 (w64 (2 * v22)) v23 v24 (fun e42 e43 e44 e45 e46=>(bif (decide ((w64 (e44 + e43)) < e42)) then none else z2z_L7 g n e42 (w64 (e43 * 2)) e45 e46 e0))) else e0 v23 v24)
def z2z_ (g:C_z2z) (a1:List G_Spot) (a2 a3:Int) {R:Type} (k0:List G_Spot→Int→Option R):Option R :=
 (z2z_L2 g g.N a2 20 0 20 a1 a3 (fun e14 e15 e16 e17 e18=>(g.z3z e17 e16 e14 e18 (fun r19 r20=>(z2z_L7 g g.N e14 e15 r19 r20 (fun e47 e48=>k0 e47 e48))))))
noncomputable def I_z2z [Fuel]:C_z2z:=⟨NN,@z3z _⟩
noncomputable def z2z [Fuel]:T_z2z:=@z2z_ I_z2z
def yq3y (g:T_z2z):Spec A:=fun args=>match args with | [.arr 42 a1,.d (.int .i64 a2),.fn 39 [.box [.fn 37 [.cel [.int .i64 a3] 0]]]]=>fun k=>g a1 a2 a3 (fun z0 z1=>k (.tup []) [.arr 42 z0,.undef,.fn 39 [.box [.fn 37 [.cel [.int .i64 z1] 0]]]]) | _=>fun _=>none
def ynzy:SSt:=mkSh 63 2 [(0,.own 42 0),(1,.int .i64),(2,.fn 39 [.ptr 1 0]),(6,.int .i64),(7,.int .i64),(8,.int .i64)] [(0,.row 42),(1,.box [.fn 37 [.cel [.int .i64] 0]])]
def yhky (g:C_z2z) (n:Nat):LPT A:=fun ps=>match ps with | [.d (.int .i64 p1),.d (.int .i64 p2),.d (.int .i64 p3),.d (.int .i64 p4),.d (.sl 42 p5),.d (.int .i64 p6)]=>fun K=>z2z_L2 g n p1 p2 p3 p4 p5 p6 (fun z0 z1 z2 z3 z4=>K (.exit 0) (mkSt 63 2 [(0,.own 42 0),(1,.d (.int .i64 z0)),(2,.fn 39 [.ptr 1 0]),(6,.d (.int .i64 z1)),(7,.d (.int .i64 z2))] [(0,some (.row 42 z3)),(1,some (.box [.fn 37 [.cel [.int .i64 z4] 0]]))])) | _=>fun _=>none
def ymCy:SSt:=mkSh 63 2 [(0,.own 42 0),(1,.int .i64),(2,.fn 39 [.ptr 1 0]),(6,.int .i64),(7,.int .i64),(8,.int .i64)] [(0,.row 42),(1,.box [.fn 37 [.cel [.int .i64] 0]])]
def ygQy (g:C_z2z) (n:Nat):LPT A:=fun ps=>match ps with | [.d (.int .i64 p1),.d (.int .i64 p2),.d (.int .i64 p3),.d (.int .i64 p4),.d (.sl 42 p5),.d (.int .i64 p6)]=>fun K=>z2z_L9 g n p1 p2 p3 p4 p5 p6 (fun z0 z1 z2 z3 z4=>K (.exit 4) (mkSt 63 2 [(0,.own 42 0),(1,.d (.int .i64 z0)),(2,.fn 39 [.ptr 1 0]),(6,.d (.int .i64 z1)),(7,.d (.int .i64 z2))] [(0,some (.row 42 z3)),(1,some (.box [.fn 37 [.cel [.int .i64 z4] 0]]))])) | _=>fun _=>none
def ymJy:SSt:=mkSh 63 2 [(0,.own 42 0),(1,.int .i64),(2,.fn 39 [.ptr 1 0]),(6,.int .i64)] [(0,.row 42),(1,.box [.fn 37 [.cel [.int .i64] 0]])]
def yhhy (g:C_z2z) (n:Nat):LPT A:=fun ps=>match ps with | [.d (.int .i64 p1),.d (.int .i64 p2),.d (.sl 42 p3),.d (.int .i64 p4)]=>fun K=>z2z_L7 g n p1 p2 p3 p4 (fun z0 z1=>K (.exit 2) (mkSt 63 2 [(0,.own 42 0),(2,.fn 39 [.ptr 1 0])] [(0,some (.row 42 z0)),(1,some (.box [.fn 37 [.cel [.int .i64 z1] 0]]))])) | _=>fun _=>none
noncomputable def E_z2z (g:C_z2z):Env A:=mkE [(128,ysJy g.z3z)] [] [(2,⟨[0,1,2,6,7,8],[],[0,1],[],[],[],[]⟩),(9,⟨[0,1,2,6,7,8],[],[0,1],[],[],[],[]⟩),(7,⟨[0,1,2,6],[],[0,1],[],[],[],[]⟩)] [(2,⟨[0,1,2,6,7],[],[0,1],[],[],[],[]⟩),(9,⟨[0,1,2,6,7],[],[0,1],[],[],[],[]⟩),(7,⟨[0,2],[],[0,1],[],[],[],[]⟩)] [(2,yafy ynzy (yhky g g.N)),(9,yafy ymCy (ygQy g g.N)),(7,yafy ymJy (yhhy g g.N))] [] [] [] [(128,0)] [0,2]
theorem yxRy [Fuel]:yahy (E_z2z I_z2z).C:=ct_of (P:=Tryz.prog) (T:=T) (.cons yFDy .nil) (by kernel_rfl)
noncomputable def yuuy:Code:=sub [1,1,0,0,0] yciy
theorem yHSy (g:C_z2z) (n:Nat):yaky (E_z2z g) g.N yuuy ynzy (yhky g) n:=by intro ps; unfold yhky; split; exact .inr fun R K=>(by kernel_rfl); exact .inl fun R K=>rfl
theorem yECy [Fuel]:yacy (E_z2z I_z2z) NN yuuy:=yaey ynzy (yhky I_z2z) (by kernel_rfl) yxRy (cuts0 (fun _=>rfl) (by kernel_rfl)) (fun ps R K=>by unfold yhky; split <;> (try unfold z2z_L2) <;> rfl) (yHSy I_z2z)
noncomputable def yuKy:Code:=sub [1,1,1,1,0,0,1,0,1,0,0,0] yciy
theorem yGuy (g:C_z2z) (n:Nat):yaky (E_z2z g) g.N yuKy ymCy (ygQy g) n:=by intro ps; unfold ygQy; split; exact .inr fun R K=>(by kernel_rfl); exact .inl fun R K=>rfl
theorem yuhy [Fuel]:yacy (E_z2z I_z2z) NN yuKy:=yaey ymCy (ygQy I_z2z) (by kernel_rfl) yxRy (cuts0 (fun _=>rfl) (by kernel_rfl)) (fun ps R K=>by unfold ygQy; split <;> (try unfold z2z_L9) <;> rfl) (yGuy I_z2z)
noncomputable def yury:Code:=sub [1,1,1,1,0,0] yciy
theorem yG4y (g:C_z2z) (n:Nat):yaky (E_z2z g) g.N yury ymJy (yhhy g) n:=by intro ps; unfold yhhy; split; exact .inr fun R K=>(by kernel_rfl); exact .inl fun R K=>rfl
theorem yE0y [Fuel]:yacy (E_z2z I_z2z) NN yury:=yaey ymJy (yhhy I_z2z) (by kernel_rfl) yxRy (cutsL (fun _=>rfl) (.cons yuhy .nil) (by kernel_rfl)) (fun ps R K=>by unfold yhhy; split <;> (try unfold z2z_L7) <;> rfl) (yG4y I_z2z)
theorem yODy (g:C_z2z):Same (yq3y (@z2z_ g)) (abody (E_z2z g) Tryz.f79 yciy 2 [0,1] [] g.N):=by intro args; unfold yq3y; split; exact .inr fun R k=>(by kernel_rfl); exact .inl fun R k=>rfl
theorem yN0y [Fuel]:Ok 79 (yq3y (@z2z _)):=yaay std (.cons yFDy .nil) ⟨rfl,rfl,by kernel_rfl,rfl,rfl,rfl⟩ (yODy I_z2z) (cutsL (fun _=>rfl) (.cons yECy (.cons yuhy (.cons yE0y .nil))) (by kernel_rfl)) Tryz.func79 (by kernel_rfl) (by kernel_rfl)
abbrev ywGy:Type 1:=List G_Spot→Int→{R:Type}→(List G_Spot→Int→Option R)→Option R
structure C_z18z where
 N:Nat
 z2z:T_z2z
def z18z_ (g:C_z18z) (a1:List G_Spot) (a2:Int) {R:Type} (k0:List G_Spot→Int→Option R):Option R :=
 (g.z2z a1 (a1.length:Int) a2 (fun r3 r4=>k0 r3 r4))
noncomputable def yx1y [Fuel]:C_z18z:=⟨NN,@z2z _⟩
noncomputable def z18z [Fuel]:ywGy:=@z18z_ yx1y
def yoiy (g:ywGy):Spec A:=fun args=>match args with | [.arr 42 a1,.fn 39 [.box [.fn 37 [.cel [.int .i64 a2] 0]]]]=>fun k=>g a1 a2 (fun z0 z1=>k (.tup []) [.arr 42 z0,.fn 39 [.box [.fn 37 [.cel [.int .i64 z1] 0]]]]) | _=>fun _=>none
noncomputable def yNNy (g:C_z18z):Env A:=mkE [(79,yq3y g.z2z)] [] [] [] [] [] [] [] [(79,0)] [0,1]
theorem yLJy (g:C_z18z):Same (yoiy (@z18z_ g)) (abody (yNNy g) Tryz.f38 ytBy 2 [0,1] [] g.N):=by intro args; unfold yoiy; split; exact .inr fun R k=>(by kernel_rfl); exact .inl fun R k=>rfl
theorem yAAy [Fuel]:Ok 38 (yoiy (@z18z _)):=yaay std (.cons yN0y .nil) ⟨rfl,rfl,by kernel_rfl,rfl,rfl,rfl⟩ (yLJy yx1y) (cuts0 (fun _=>rfl) (by kernel_rfl)) Tryz.func38 (by kernel_rfl) (by kernel_rfl)
abbrev yygy:Type 1:=List G_Band→List G_Spot→Int→Int→Int→Int→{R:Type}→(List G_Spot→Int→Option R)→Option R
structure C_z30z where
 N:Nat
 z57z:yjFy
 z64z:yxYy
 kit_IsMode:ycNy
 z56z:yjBy
 z85z:ysOy
 band_heard:ycJy
 z18z:ywGy
def z30z_L14 (g:C_z30z):Nat→List G_Band→List G_Spot→Int→Int→Int→Int→Int→Int→List (G_band_worked×Bool)→{R:Type}→(List G_Band→List G_Spot→Int→Int→Int→List (G_band_worked×Bool)→Option R)→Option R
 | 0,_,_,_,_,_,_,_,_,_,_,_=>none
 | n + 1,v11,v12,v13,v14,v15,v16,v17,v18,v19,_,e0=>(bif (decide (v17 < v16)) then none else e0 v11 v12 v14 v15 v18 v19)
def z30z_L22 (g:C_z30z):Nat→List G_Band→Int→Int→Int→List (G_band_worked×Bool)→List G_Spot→List Int→List G_Spot→{R:Type}→(Int→List G_Spot→Option R)→Option R
 | 0,_,_,_,_,_,_,_,_,_,_=>none
 | n + 1,v28,v29,v30,v31,v32,v33,v34,v35,_,e0=>(bif (decide (v30 < v29)) then (inr v33 v30 (at_ v33 v30 fun x40=>(inr v34 v30 (at_ v34 v30 fun x41=>(get_ v28 x41 fun x42=>(g.z85z x40.f_Call (fun r43=>(bif (!((ybfy (⟨r43,x42.f_Key⟩:G_band_worked) v32).getD false)) then (bif (decide ((v35.length + [x40].length) * 48≤yaly)) then z30z_L22 g n v28 v29 (w64 (v30 + 1)) v31 v32 v33 v34 (v35 ++ [x40]) e0 else none) else z30z_L22 g n v28 v29 (w64 (v30 + 1)) v31 v32 v33 v34 v35 e0)))))))) else e0 v31 v35)
def z30z_ (g:C_z30z) (a1:List G_Band) (a2:List G_Spot) (a3 a4 a5 a6:Int) {R:Type} (k0:List G_Spot→Int→Option R):Option R :=
 (g.z57z a1 a2 (fun r7=>(bif (r7 != 0) then k0 [] r7 else (g.z64z (fun r8=>(bif (r8 != 0) then k0 [] r8 else (g.kit_IsMode a3 (fun r9=>(bif (!r9) then k0 [] 4 else (g.z56z a4 a5 a6 (fun r10=>(bif (r10 != 0) then k0 [] r10 else (z30z_L14 g g.N a1 a2 a3 a4 a5 0 0 a6 [] (fun e20 e21 e22 e23 e24 e25=>(g.band_heard e20 e21 e22 e23 (fun r26 r27=>(z30z_L22 g g.N e20 (r26.length:Int) 0 e24 e25 r26 r27 [] (fun e44 e45=>(g.z18z e45 e44 (fun r46 r47=>k0 r46 0))))))))))))))))))))
noncomputable def ybAy [Fuel]:C_z30z:=⟨NN,@z57z _,@z64z _,@kit_IsMode _,@z56z _,@z85z _,@band_heard _,@z18z _⟩
noncomputable def z30z [Fuel]:yygy:=@z30z_ ybAy
def yoUy (g:yygy):Spec A:=fun args=>match args with | [.d (.sl 62 a1),.d (.sl 42 a2),.d .nsl,.d (.int .i64 a3),.d (.int .i64 a4),.d (.int .i64 a5),.d (.int .i64 a6)]=>fun k=>g a1 a2 a3 a4 a5 a6 (fun z0 z1=>k (.tup [.arr 42 z0,.d (.int .i64 z1)]) [.undef,.undef,.undef,.undef,.undef,.undef,.undef]) | _=>fun _=>none
def yi6y:SSt:=mkSh 114 9 [(0,.sl 62),(1,.sl 42),(3,.int .i64),(4,.int .i64),(5,.int .i64),(13,.ptr 0 0),(19,.mp 1),(50,.nsl),(51,.int .i64),(52,.int .i64)] [(0,.box [.int .i64]),(1,.mp 72 4)]
def yecy (g:C_z30z) (n:Nat):LPT A:=fun ps=>match ps with | [.d (.sl 62 p1),.d (.sl 42 p2),.d (.int .i64 p3),.d (.int .i64 p4),.d (.int .i64 p5),.d (.int .i64 p6),.d (.int .i64 p7),.d (.int .i64 p8),.mp 72 4 p9]=>fun K=>z30z_L14 g n p1 p2 p3 p4 p5 p6 p7 p8 p9 (fun z0 z1 z2 z3 z4 z5=>K (.exit 0) (mkSt 114 9 [(0,.d (.sl 62 z0)),(1,.d (.sl 42 z1)),(4,.d (.int .i64 z2)),(5,.d (.int .i64 z3)),(13,.ptr 0 0),(19,.mp 1)] [(0,some (.box [.d (.int .i64 z4)])),(1,some (.mp 72 4 z5))])) | _=>fun _=>none
def yjty:SSt:=mkSh 114 9 [(0,.sl 62),(13,.ptr 0 0),(19,.mp 1),(23,.own 3 3),(24,.own 42 4),(82,.own 42 2),(83,.int .i64),(84,.int .i64)] [(0,.box [.int .i64]),(1,.mp 72 4),(2,.row 42),(3,.row 3),(4,.row 42)]
def yd8y (g:C_z30z) (n:Nat):LPT A:=fun ps=>match ps with | [.d (.sl 62 p1),.d (.int .i64 p2),.d (.int .i64 p3),.d (.int .i64 p4),.mp 72 4 p5,.d (.sl 42 p6),.d (.sl 3 p7),.d (.sl 42 p8)]=>fun K=>z30z_L22 g n p1 p2 p3 p4 p5 p6 p7 p8 (fun z0 z1=>K (.exit 2) (mkSt 114 9 [(13,.ptr 0 0),(24,.own 42 4)] [(0,some (.box [.d (.int .i64 z0)])),(4,some (.row 42 z1))])) | _=>fun _=>none
noncomputable def ywpy:Code:=(Tryz.f9.body).getD .skip
noncomputable def yjVy (g:C_z30z):Env A:=mkE [(31,ygby g.z57z),(32,yoIy g.z64z),(33,yb0y g.kit_IsMode),(34,ygly g.z56z),(35,yjPy g.z85z),(36,yaTy g.band_heard),(38,yoiy g.z18z)] [(13,[0]),(26,[5]),(27,[8]),(49,[1]),(79,[2,3]),(106,[6]),(107,[7])] [(14,⟨[0,1,3,4,5,13,19,50,51,52],[],[0,1],[],[],[],[]⟩),(22,⟨[0,13,19,23,24,82,83,84],[(24,42,4)],[0,1,2,3],[],[],[],[]⟩)] [(14,⟨[0,1,4,5,13,19],[],[0,1],[],[],[],[]⟩),(22,⟨[13,24],[],[0,4],[],[],[],[]⟩)] [(14,yafy yi6y (yecy g g.N)),(22,yafy yjty (yd8y g g.N))] [(28,⟨[24,27],[],[4,8],[],[],[],[0]⟩)] [] [] [(38,0)] []
theorem yAYy [Fuel]:yahy (yjVy ybAy).C:=ct_of (P:=Tryz.prog) (T:=T) (.cons ygiy (.cons yAGy (.cons ycjy (.cons yf7y (.cons ykry (.cons yb1y (.cons yAAy .nil))))))) (by kernel_rfl)
noncomputable def ypGy:Code:=sub [1,1,1,1,1,1,0,1,0,0] ywpy
theorem yDny (g:C_z30z) (n:Nat):yaky (yjVy g) g.N ypGy yi6y (yecy g) n:=by intro ps; unfold yecy; split; exact .inr fun R K=>(by kernel_rfl); exact .inl fun R K=>rfl
theorem yz9y [Fuel]:yacy (yjVy ybAy) NN ypGy:=yaey yi6y (yecy ybAy) (by kernel_rfl) yAYy (cuts0 (fun _=>rfl) (by kernel_rfl)) (fun ps R K=>by unfold yecy; split <;> (try unfold z30z_L14) <;> rfl) (yDny ybAy)
noncomputable def yply:Code:=sub [1,1,1,1,1,1,1,1,1,0,1,0,0] ywpy
theorem yCEy (g:C_z30z) (n:Nat):yaky (yjVy g) g.N yply yjty (yd8y g) n:=by intro ps; unfold yd8y; split; exact .inr fun R K=>(by kernel_rfl); exact .inl fun R K=>rfl
theorem yzzy [Fuel]:yacy (yjVy ybAy) NN yply:=yaey yjty (yd8y ybAy) (by kernel_rfl) yAYy (cuts0 (fun _=>rfl) (by kernel_rfl)) (fun ps R K=>by unfold yd8y; split <;> (try unfold z30z_L22) <;> rfl) (yCEy ybAy)
theorem yJoy (g:C_z30z):Same (yoUy (@z30z_ g)) (abody (yjVy g) Tryz.f9 ywpy 9 [] [.arr 42,.asis] g.N):=by intro args; unfold yoUy; split; exact .inr fun R k=>(by kernel_rfl); exact .inl fun R k=>rfl
theorem yByy [Fuel]:Ok 9 (yoUy (@z30z _)):=yaay std (.cons ygiy (.cons yAGy (.cons ycjy (.cons yf7y (.cons ykry (.cons yb1y (.cons yAAy .nil))))))) ⟨rfl,rfl,by kernel_rfl,rfl,rfl,rfl⟩ (yJoy ybAy) (cutsL (fun _=>rfl) (.cons yz9y (.cons yzzy .nil)) (by kernel_rfl)) Tryz.func9 (by kernel_rfl) (by kernel_rfl)
abbrev yxiy:Type 1:=List G_Spot→{R:Type}→(List G_Spot→Option R)→Option R
def z88z [Fuel]:yxiy:=@ydNy G_Spot 48
def yjYy (g:yxiy):Spec A:=fun args=>match args with | [.d (.sl 42 x1)]=>fun k=>g x1 (fun z=>k (.arr 42 z) [.undef]) | _=>fun _=>none
theorem yBty [Fuel] (xs:List (A 42)) (R:Type) (k:IV A→List (IV A)→Option R):yjYy (@z88z _) [.d (.sl 42 xs)] k = ydNy 48 xs (fun z=>k (.arr 42 z) [.undef]):=by kernel_rfl
theorem yBwy [Fuel] (args:List (IV A)) (R:Type) (k:IV A→List (IV A)→Option R) (h:∀ xs:List (A 42),args ≠ [.d (.sl 42 xs)]):yjYy (@z88z _) args k = none:=by unfold yjYy; split; exact absurd rfl (h _); rfl
theorem yBPy [Fuel]:Ok 91 (yjYy (@z88z _)):=⟨yv5y (ypQy rfl (tyOk Tryz.prog) (e:=42) (size:=4) (bytes:=48) (ty:=42) (by kernel_rfl) (fun n c w=>AnyE.slices_Clone_nil Tryz.clone91 n c w) (fun b off n c news w h1 h2 h3 h4 h5=>AnyE.slices_Clone Tryz.clone91 Tryz.ti42 Tryz.zv42 4 48 (by kernel_rfl) (by kernel_rfl) (by kernel_rfl) (by kernel_rfl) (by kernel_rfl) (by decide) Tryz.sizeOf42 b off n c news w h1 h2 h3 h4 h5)) yBty yBwy,ywdy yBty yBwy,yaOy (fn:=Tryz.f91) Tryz.func91 (by kernel_rfl) (by kernel_rfl)⟩
abbrev ytRy:Type 1:=G_Spot→Int→{R:Type}→(Int→Option R)→Option R
def z106z_ (g:Nat) (a1:G_Spot) (a2:Int) {R:Type} (k0:Int→Option R):Option R :=
 k0 (if (w64 (a2 - a1.f_Hertz)) > (w64 (a1.f_Hertz - a2)) then (w64 (a2 - a1.f_Hertz)) else (w64 (a1.f_Hertz - a2)))
noncomputable def z106z [Fuel]:ytRy:=@z106z_ NN
def yk3y (g:ytRy):Spec A:=fun args=>match args with | [.agg [.d (.int .i64 a1),.d (.int .i64 a2),.d (.str a3),.d (.str a4)],.cel [.int .i64 a5] 0]=>fun k=>g ⟨a1,a2,a3,a4⟩ a5 (fun z0=>k (.d (.int .i64 z0)) [.undef,.undef]) | _=>fun _=>none
noncomputable def yKKy:Code:=(Tryz.f90.body).getD .skip
noncomputable def yMuy (g:Nat):Env A:=mkE [] [(2,[0])] [] [] [] [] [] [] [] []
theorem yHay (g:Nat):Same (yk3y (@z106z_ g)) (abody (yMuy g) Tryz.f90 yKKy 1 [] [.asis] g):=by intro args; unfold yk3y; split; exact .inr fun R k=>(by kernel_rfl); exact .inl fun R k=>rfl
theorem yGgy [Fuel]:Ok 90 (yk3y (@z106z _)):=yaay std .nil ⟨rfl,rfl,by kernel_rfl,rfl,rfl,rfl⟩ (yHay NN) (cuts0 (fun _=>rfl) (by kernel_rfl)) Tryz.func90 (by kernel_rfl) (by kernel_rfl)
abbrev yx9y:Type 1:=G_Spot→Int→Bool→{R:Type}→(Bool→Option R)→Option R
def z97z_ (g:Nat) (a1:G_Spot) (a2:Int) (a3:Bool) {R:Type} (k0:Bool→Option R):Option R :=
 (bif (a1.f_Hertz == a2) then k0 true else k0 ((decide (a1.f_Hertz < a2)) == a3))
noncomputable def z97z [Fuel]:yx9y:=@z97z_ NN
def yoey (g:yx9y):Spec A:=fun args=>match args with | [.agg [.d (.int .i64 a1),.d (.int .i64 a2),.d (.str a3),.d (.str a4)],.cel [.int .i64 a5] 0,.cel [.bool a6] 0]=>fun k=>g ⟨a1,a2,a3,a4⟩ a5 a6 (fun z0=>k (.d (.bool z0)) [.undef,.undef,.undef]) | _=>fun _=>none
noncomputable def yJGy:Code:=(Tryz.f89.body).getD .skip
noncomputable def yNqy (g:Nat):Env A:=mkE [] [(3,[0])] [] [] [] [] [] [] [] []
theorem yLLy (g:Nat):Same (yoey (@z97z_ g)) (abody (yNqy g) Tryz.f89 yJGy 1 [] [.asis] g):=by intro args; unfold yoey; split; exact .inr fun R k=>(by kernel_rfl); exact .inl fun R k=>rfl
theorem yMYy [Fuel]:Ok 89 (yoey (@z97z _)):=yaay std .nil ⟨rfl,rfl,by kernel_rfl,rfl,rfl,rfl⟩ (yLLy NN) (cuts0 (fun _=>rfl) (by kernel_rfl)) Tryz.func89 (by kernel_rfl) (by kernel_rfl)
end Go.Am
