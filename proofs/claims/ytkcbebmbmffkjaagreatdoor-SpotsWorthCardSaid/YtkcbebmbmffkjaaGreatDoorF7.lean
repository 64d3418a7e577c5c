/- The functions of the program as Lean functions, each shown to be what the code computes, part 7. No condition: lemmas for the claim. -/
import Derived.Test.YtkcbebmbmffkjaaGreatDoorF0
import Derived.Test.YtkcbebmbmffkjaaGreatDoorFSh
import Derived.Test.YtkcbebmbmffkjaaGreatDoorF2
import Derived.Test.YtkcbebmbmffkjaaGreatDoorF5
import Derived.Test.YtkcbebmbmffkjaaGreatDoorF6
set_option linter.unusedVariables false
set_option maxRecDepth 100000
namespace Go.Am
open Go Go.Proofs
abbrev T_z4z:Type 1:=List G_Spot→Int→Int→Int→{R:Type}→(List G_Spot→Int→Option R)→Option R
structure C_z4z where
 N:Nat
 z74z:yzWy
def z4z_L4 (g:C_z4z):Nat→Int→Int→Int→Int→List G_Spot→Int→{R:Type}→(Int→Int→Int→List G_Spot→Int→Option R)→Option R
 | 0,_,_,_,_,_,_,_,_=>none
 | n + 1,v37,v38,v39,v40,v41,v42,_,e0=>(bif (decide (v40 > v37)) then (inr v41 v40 (at_ v41 v40 fun x51=>(inr v41 (w64 (v40 - 1)) (at_ v41 (w64 (v40 - 1)) fun x52=>(g.z74z x51 x52 v42 (fun r53 r54=>(bif (decide (r53 < 0)) then (inr v41 (w64 (v40 - 1)) (at_ v41 (w64 (v40 - 1)) fun x55=>(inr v41 v40 (at_ v41 v40 fun x56=>(inr v41 v40 (at_ v41 v40 fun x57=>(inr (set_ v41 v40 x55) (w64 (v40 - 1)) (at_ (set_ v41 v40 x55) (w64 (v40 - 1)) fun x58=>z4z_L4 g n v37 v38 v39 (w64 (v40 - 1)) (set_ (set_ v41 v40 x55) (w64 (v40 - 1)) x56) r54 e0)))))))) else e0 v37 v38 v39 v41 r54))))))) else e0 v37 v38 v39 v41 v42)
def z4z_L1 (g:C_z4z):Nat→Int→Int→Int→List G_Spot→Int→{R:Type}→(List G_Spot→Int→Option R)→Option R
 | 0,_,_,_,_,_,_,_=>none
 | n + 1,v5,v6,v7,v8,v9,_,e0=>(bif (decide (v7 < v6)) then (z4z_L4 g g.N v5 v6 v7 v7 v8 v9 (fun e59 e60 e61 e62 e63=>z4z_L1 g n e59 e60 (w64 (e61 + 1)) e62 e63 e0)) else e0 v8 v9)
def z4z_ (g:C_z4z) (a1:List G_Spot) (a2 a3 a4:Int) {R:Type} (k0:List G_Spot→Int→Option R):Option R :=
 (z4z_L1 g g.N a2 a3 (w64 (a2 + 1)) a1 a4 (fun e64 e65=>k0 e64 e65))
noncomputable def I_z4z [Fuel]:C_z4z:=⟨NN,@z74z _⟩
noncomputable def z4z [Fuel]:T_z4z:=@z4z_ I_z4z
def ysCy (g:T_z4z):Spec A:=fun args=>match args with | [.arr 52 a1,.d (.int .i64 a2),.d (.int .i64 a3),.fn 54 [.box [.fn 53 [.cel [.int .i64 a4] 0]]]]=>fun k=>g a1 a2 a3 a4 (fun z0 z1=>k (.tup []) [.arr 52 z0,.undef,.undef,.fn 54 [.box [.fn 53 [.cel [.int .i64 z1] 0]]]]) | _=>fun _=>none
def ymYy:SSt:=mkSh 53 2 [(0,.own 52 0),(1,.int .i64),(2,.int .i64),(3,.fn 54 [.ptr 1 0]),(8,.int .i64),(9,.int .i64)] [(0,.row 52),(1,.box [.fn 53 [.cel [.int .i64] 0]])]
def yg7y (g:C_z4z) (n:Nat):LPT A:=fun ps=>match ps with | [.d (.int .i64 p1),.d (.int .i64 p2),.d (.int .i64 p3),.d (.int .i64 p4),.d (.sl 52 p5),.d (.int .i64 p6)]=>fun K=>z4z_L4 g n p1 p2 p3 p4 p5 p6 (fun z0 z1 z2 z3 z4=>K (.exit 2) (mkSt 53 2 [(0,.own 52 0),(1,.d (.int .i64 z0)),(2,.d (.int .i64 z1)),(3,.fn 54 [.ptr 1 0]),(8,.d (.int .i64 z2))] [(0,some (.row 52 z3)),(1,some (.box [.fn 53 [.cel [.int .i64 z4] 0]]))])) | _=>fun _=>none
def ynAy:SSt:=mkSh 53 2 [(0,.own 52 0),(1,.int .i64),(2,.int .i64),(3,.fn 54 [.ptr 1 0]),(8,.int .i64)] [(0,.row 52),(1,.box [.fn 53 [.cel [.int .i64] 0]])]
def yhry (g:C_z4z) (n:Nat):LPT A:=fun ps=>match ps with | [.d (.int .i64 p1),.d (.int .i64 p2),.d (.int .i64 p3),.d (.sl 52 p4),.d (.int .i64 p5)]=>fun K=>z4z_L1 g n p1 p2 p3 p4 p5 (fun z0 z1=>K (.exit 0) (mkSt 53 2 [(0,.own 52 0),(3,.fn 54 [.ptr 1 0])] [(0,some (.row 52 z0)),(1,some (.box [.fn 53 [.cel [.int .i64 z1] 0]]))])) | _=>fun _=>none
noncomputable def E_z4z (g:C_z4z):Env A:=mkE [(54,ypfy g.z74z)] [] [(4,⟨[0,1,2,3,8,9],[],[0,1],[],[],[],[]⟩),(1,⟨[0,1,2,3,8],[],[0,1],[],[],[],[]⟩)] [(4,⟨[0,1,2,3,8],[],[0,1],[],[],[],[]⟩),(1,⟨[0,3],[],[0,1],[],[],[],[]⟩)] [(4,yaey ymYy (yg7y g g.N)),(1,yaey ynAy (yhry g g.N))] [] [] [] [] [0,3]
theorem yFjy [Fuel]:yagy (E_z4z I_z4z).C:=ct_of (P:=Tryz.prog) (T:=T) (.cons yBzy .nil) (by kernel_rfl)
noncomputable def yvOy:Code:=sub [1,0,0,1,0,0,1,0,0] ybry
theorem yJky (g:C_z4z) (n:Nat):yahy (E_z4z g) g.N yvOy ymYy (yg7y g) n:=by intro ps; unfold yg7y; split; exact .inr fun R K=>(by kernel_rfl); exact .inl fun R K=>rfl
theorem yvby [Fuel]:yacy (E_z4z I_z4z) NN yvOy:=yaby ymYy (yg7y I_z4z) (by kernel_rfl) yFjy (cuts0 (fun _=>rfl) (by kernel_rfl)) (fun ps R K=>by unfold yg7y; split <;> (try unfold z4z_L4) <;> rfl) (yJky I_z4z)
noncomputable def yvGy:Code:=sub [1,0,0] ybry
theorem yHDy (g:C_z4z) (n:Nat):yahy (E_z4z g) g.N yvGy ynAy (yhry g) n:=by intro ps; unfold yhry; split; exact .inr fun R K=>(by kernel_rfl); exact .inl fun R K=>rfl
theorem yFHy [Fuel]:yacy (E_z4z I_z4z) NN yvGy:=yaby ynAy (yhry I_z4z) (by kernel_rfl) yFjy (cutsL (fun _=>rfl) (.cons yvby .nil) (by kernel_rfl)) (fun ps R K=>by unfold yhry; split <;> (try unfold z4z_L1) <;> rfl) (yHDy I_z4z)
theorem yOIy (g:C_z4z):Same (ysCy (@z4z_ g)) (abody (E_z4z g) Tryz.f128 ybry 2 [0,1] [] g.N):=by intro args; unfold ysCy; split; exact .inr fun R k=>(by kernel_rfl); exact .inl fun R k=>rfl
theorem yGsy [Fuel]:Ok 128 (ysCy (@z4z _)):=yaay std (.cons yBzy .nil) ⟨rfl,rfl,by kernel_rfl,rfl,rfl,rfl⟩ (yOIy I_z4z) (cutsL (fun _=>rfl) (.cons yvby (.cons yFHy .nil)) (by kernel_rfl)) Tryz.func128 (by kernel_rfl) (by kernel_rfl)
abbrev T_z3z:Type 1:=List G_Spot→Int→Int→{R:Type}→(List G_Spot→Int→Option R)→Option R
structure C_z3z where
 N:Nat
 z4z:T_z4z
def z3z_L2 (g:C_z3z):Nat→Int→Int→Int→Int→List G_Spot→Int→{R:Type}→(Int→Int→Int→List G_Spot→Int→Option R)→Option R
 | 0,_,_,_,_,_,_,_,_=>none
 | n + 1,v4,v5,v6,v7,v8,v9,_,e0=>(bif (decide (v7≤v4)) then (g.z4z v8 v6 v7 v9 (fun r12 r13=>z3z_L2 g n v4 v5 v7 (w64 (v7 + v5)) r12 r13 e0)) else e0 v4 v5 v6 v8 v9)
def z3z_L9 (g:C_z3z):Nat→Int→Int→Int→Int→List G_Spot→Int→{R:Type}→(Int→Int→Int→List G_Spot→Int→Option R)→Option R
 | 0,_,_,_,_,_,_,_,_=>none
 | n + 1,v36,v37,v38,v39,v40,v41,_,e0=>(bif (decide (v39≤v36)) then none else e0 v36 v37 v38 v40 v41)
def z3z_L7 (g:C_z3z):Nat→Int→Int→List G_Spot→Int→{R:Type}→(List G_Spot→Int→Option R)→Option R
 | 0,_,_,_,_,_,_=>none
 | n + 1,v21,v22,v23,v24,_,e0=>(bif (decide (v22 < v21)) then (z3z_L9 g g.N v21 v22 0 (w64 (2 * v22)) v23 v24 (fun e42 e43 e44 e45 e46=>(bif (decide ((w64 (e44 + e43)) < e42)) then none else z3z_L7 g n e42 (w64 (e43 * 2)) e45 e46 e0))) else e0 v23 v24)
def z3z_ (g:C_z3z) (a1:List G_Spot) (a2 a3:Int) {R:Type} (k0:List G_Spot→Int→Option R):Option R :=
 (z3z_L2 g g.N a2 20 0 20 a1 a3 (fun e14 e15 e16 e17 e18=>(g.z4z e17 e16 e14 e18 (fun r19 r20=>(z3z_L7 g g.N e14 e15 r19 r20 (fun e47 e48=>k0 e47 e48))))))
noncomputable def I_z3z [Fuel]:C_z3z:=⟨NN,@z4z _⟩
noncomputable def z3z [Fuel]:T_z3z:=@z3z_ I_z3z
def ysgy (g:T_z3z):Spec A:=fun args=>match args with | [.arr 52 a1,.d (.int .i64 a2),.fn 54 [.box [.fn 53 [.cel [.int .i64 a3] 0]]]]=>fun k=>g a1 a2 a3 (fun z0 z1=>k (.tup []) [.arr 52 z0,.undef,.fn 54 [.box [.fn 53 [.cel [.int .i64 z1] 0]]]]) | _=>fun _=>none
def ymZy:SSt:=mkSh 63 2 [(0,.own 52 0),(1,.int .i64),(2,.fn 54 [.ptr 1 0]),(6,.int .i64),(7,.int .i64),(8,.int .i64)] [(0,.row 52),(1,.box [.fn 53 [.cel [.int .i64] 0]])]
def ygVy (g:C_z3z) (n:Nat):LPT A:=fun ps=>match ps with | [.d (.int .i64 p1),.d (.int .i64 p2),.d (.int .i64 p3),.d (.int .i64 p4),.d (.sl 52 p5),.d (.int .i64 p6)]=>fun K=>z3z_L2 g n p1 p2 p3 p4 p5 p6 (fun z0 z1 z2 z3 z4=>K (.exit 0) (mkSt 63 2 [(0,.own 52 0),(1,.d (.int .i64 z0)),(2,.fn 54 [.ptr 1 0]),(6,.d (.int .i64 z1)),(7,.d (.int .i64 z2))] [(0,some (.row 52 z3)),(1,some (.box [.fn 53 [.cel [.int .i64 z4] 0]]))])) | _=>fun _=>none
def ynTy:SSt:=mkSh 63 2 [(0,.own 52 0),(1,.int .i64),(2,.fn 54 [.ptr 1 0]),(6,.int .i64),(7,.int .i64),(8,.int .i64)] [(0,.row 52),(1,.box [.fn 53 [.cel [.int .i64] 0]])]
def yg9y (g:C_z3z) (n:Nat):LPT A:=fun ps=>match ps with | [.d (.int .i64 p1),.d (.int .i64 p2),.d (.int .i64 p3),.d (.int .i64 p4),.d (.sl 52 p5),.d (.int .i64 p6)]=>fun K=>z3z_L9 g n p1 p2 p3 p4 p5 p6 (fun z0 z1 z2 z3 z4=>K (.exit 4) (mkSt 63 2 [(0,.own 52 0),(1,.d (.int .i64 z0)),(2,.fn 54 [.ptr 1 0]),(6,.d (.int .i64 z1)),(7,.d (.int .i64 z2))] [(0,some (.row 52 z3)),(1,some (.box [.fn 53 [.cel [.int .i64 z4] 0]]))])) | _=>fun _=>none
def yngy:SSt:=mkSh 63 2 [(0,.own 52 0),(1,.int .i64),(2,.fn 54 [.ptr 1 0]),(6,.int .i64)] [(0,.row 52),(1,.box [.fn 53 [.cel [.int .i64] 0]])]
def ygZy (g:C_z3z) (n:Nat):LPT A:=fun ps=>match ps with | [.d (.int .i64 p1),.d (.int .i64 p2),.d (.sl 52 p3),.d (.int .i64 p4)]=>fun K=>z3z_L7 g n p1 p2 p3 p4 (fun z0 z1=>K (.exit 2) (mkSt 63 2 [(0,.own 52 0),(2,.fn 54 [.ptr 1 0])] [(0,some (.row 52 z0)),(1,some (.box [.fn 53 [.cel [.int .i64 z1] 0]]))])) | _=>fun _=>none
noncomputable def E_z3z (g:C_z3z):Env A:=mkE [(128,ysCy g.z4z)] [] [(2,⟨[0,1,2,6,7,8],[],[0,1],[],[],[],[]⟩),(9,⟨[0,1,2,6,7,8],[],[0,1],[],[],[],[]⟩),(7,⟨[0,1,2,6],[],[0,1],[],[],[],[]⟩)] [(2,⟨[0,1,2,6,7],[],[0,1],[],[],[],[]⟩),(9,⟨[0,1,2,6,7],[],[0,1],[],[],[],[]⟩),(7,⟨[0,2],[],[0,1],[],[],[],[]⟩)] [(2,yaey ymZy (ygVy g g.N)),(9,yaey ynTy (yg9y g g.N)),(7,yaey yngy (ygZy g g.N))] [] [] [] [(128,0)] [0,2]
theorem yxZy [Fuel]:yagy (E_z3z I_z3z).C:=ct_of (P:=Tryz.prog) (T:=T) (.cons yGsy .nil) (by kernel_rfl)
noncomputable def yvfy:Code:=sub [1,1,0,0,0] ya8y
theorem yHOy (g:C_z3z) (n:Nat):yahy (E_z3z g) g.N yvfy ymZy (ygVy g) n:=by intro ps; unfold ygVy; split; exact .inr fun R K=>(by kernel_rfl); exact .inl fun R K=>rfl
theorem yF7y [Fuel]:yacy (E_z3z I_z3z) NN yvfy:=yaby ymZy (ygVy I_z3z) (by kernel_rfl) yxZy (cuts0 (fun _=>rfl) (by kernel_rfl)) (fun ps R K=>by unfold ygVy; split <;> (try unfold z3z_L2) <;> rfl) (yHOy I_z3z)
noncomputable def yvVy:Code:=sub [1,1,1,1,0,0,1,0,1,0,0,0] ya8y
theorem yG0y (g:C_z3z) (n:Nat):yahy (E_z3z g) g.N yvVy ynTy (yg9y g) n:=by intro ps; unfold yg9y; split; exact .inr fun R K=>(by kernel_rfl); exact .inl fun R K=>rfl
theorem yu8y [Fuel]:yacy (E_z3z I_z3z) NN yvVy:=yaby ynTy (yg9y I_z3z) (by kernel_rfl) yxZy (cuts0 (fun _=>rfl) (by kernel_rfl)) (fun ps R K=>by unfold yg9y; split <;> (try unfold z3z_L9) <;> rfl) (yG0y I_z3z)
noncomputable def yuZy:Code:=sub [1,1,1,1,0,0] ya8y
theorem yIqy (g:C_z3z) (n:Nat):yahy (E_z3z g) g.N yuZy yngy (ygZy g) n:=by intro ps; unfold ygZy; split; exact .inr fun R K=>(by kernel_rfl); exact .inl fun R K=>rfl
theorem yGGy [Fuel]:yacy (E_z3z I_z3z) NN yuZy:=yaby yngy (ygZy I_z3z) (by kernel_rfl) yxZy (cutsL (fun _=>rfl) (.cons yu8y .nil) (by kernel_rfl)) (fun ps R K=>by unfold ygZy; split <;> (try unfold z3z_L7) <;> rfl) (yIqy I_z3z)
theorem yPGy (g:C_z3z):Same (ysgy (@z3z_ g)) (abody (E_z3z g) Tryz.f89 ya8y 2 [0,1] [] g.N):=by intro args; unfold ysgy; split; exact .inr fun R k=>(by kernel_rfl); exact .inl fun R k=>rfl
theorem yOSy [Fuel]:Ok 89 (ysgy (@z3z _)):=yaay std (.cons yGsy .nil) ⟨rfl,rfl,by kernel_rfl,rfl,rfl,rfl⟩ (yPGy I_z3z) (cutsL (fun _=>rfl) (.cons yF7y (.cons yu8y (.cons yGGy .nil))) (by kernel_rfl)) Tryz.func89 (by kernel_rfl) (by kernel_rfl)
abbrev yxfy:Type 1:=List G_Spot→Int→{R:Type}→(List G_Spot→Int→Option R)→Option R
structure C_z39z where
 N:Nat
 z3z:T_z3z
def z39z_ (g:C_z39z) (a1:List G_Spot) (a2:Int) {R:Type} (k0:List G_Spot→Int→Option R):Option R :=
 (g.z3z a1 (a1.length:Int) a2 (fun r3 r4=>k0 r3 r4))
noncomputable def yxmy [Fuel]:C_z39z:=⟨NN,@z3z _⟩
noncomputable def z39z [Fuel]:yxfy:=@z39z_ yxmy
def ypGy (g:yxfy):Spec A:=fun args=>match args with | [.arr 52 a1,.fn 54 [.box [.fn 53 [.cel [.int .i64 a2] 0]]]]=>fun k=>g a1 a2 (fun z0 z1=>k (.tup []) [.arr 52 z0,.fn 54 [.box [.fn 53 [.cel [.int .i64 z1] 0]]]]) | _=>fun _=>none
noncomputable def yP4y (g:C_z39z):Env A:=mkE [(89,ysgy g.z3z)] [] [] [] [] [] [] [] [(89,0)] [0,1]
theorem yKPy (g:C_z39z):Same (ypGy (@z39z_ g)) (abody (yP4y g) Tryz.f39 yjQy 2 [0,1] [] g.N):=by intro args; unfold ypGy; split; exact .inr fun R k=>(by kernel_rfl); exact .inl fun R k=>rfl
theorem yB1y [Fuel]:Ok 39 (ypGy (@z39z _)):=yaay std (.cons yOSy .nil) ⟨rfl,rfl,by kernel_rfl,rfl,rfl,rfl⟩ (yKPy yxmy) (cuts0 (fun _=>rfl) (by kernel_rfl)) Tryz.func39 (by kernel_rfl) (by kernel_rfl)
abbrev yiby:Type 1:=List G_Band→List G_Spot→List G_Contact→Int→Int→Int→Int→{R:Type}→(List G_Spot→Int→Option R)→Option R
structure C_band_Worth where
 N:Nat
 z39z:yxfy
 z86z:ysXy
 z72z:yxVy
 kit_IsMode:ycHy
 z87z:yr5y
 z106z:yuHy
 band_heard:yeVy
def yaZy (g:C_band_Worth):Nat→List G_Band→List G_Spot→Int→Int→Int→List G_Contact→Int→Int→Int→List (G_band_worked×Bool)→{R:Type}→(List G_Band→List G_Spot→Int→Int→Int→List (G_band_worked×Bool)→Option R)→Option R
 | 0,_,_,_,_,_,_,_,_,_,_,_,_=>none
 | n + 1,v12,v13,v14,v15,v16,v17,v18,v19,v20,v21,_,e0=>(bif (decide (v19 < v18)) then (get_ v17 v19 fun x24=>(bif (decide (x24.f_At≤v16)) then (bif (x24.f_Mode == v14) then (g.z106z x24.f_Call (fun r25=>yaZy g n v12 v13 v14 v15 v16 v17 v18 (w64 (v19 + 1)) v20 (ya9y (⟨r25,x24.f_Band⟩:G_band_worked) true v21) e0)) else yaZy g n v12 v13 v14 v15 v16 v17 v18 (w64 (v19 + 1)) v20 v21 e0) else yaZy g n v12 v13 v14 v15 v16 v17 v18 (w64 (v19 + 1)) v20 v21 e0)) else e0 v12 v13 v15 v16 v20 v21)
def ybey (g:C_band_Worth):Nat→List G_Band→Int→Int→Int→List (G_band_worked×Bool)→List G_Spot→List Int→List G_Spot→{R:Type}→(Int→List G_Spot→Option R)→Option R
 | 0,_,_,_,_,_,_,_,_,_,_=>none
 | n + 1,v34,v35,v36,v37,v38,v39,v40,v41,_,e0=>(bif (decide (v36 < v35)) then (inr v39 v36 (at_ v39 v36 fun x46=>(inr v40 v36 (at_ v40 v36 fun x47=>(get_ v34 x47 fun x48=>(g.z106z x46.f_Call (fun r49=>(bif (!((yaJy (⟨r49,x48.f_Key⟩:G_band_worked) v38).getD false)) then (bif (decide ((v41.length + [x46].length) * 48≤yazy)) then ybey g n v34 v35 (w64 (v36 + 1)) v37 v38 v39 v40 (v41 ++ [x46]) e0 else none) else ybey g n v34 v35 (w64 (v36 + 1)) v37 v38 v39 v40 v41 e0)))))))) else e0 v37 v41)
def yjJy (g:C_band_Worth) (a1:List G_Band) (a2:List G_Spot) (a3:List G_Contact) (a4 a5 a6 a7:Int) {R:Type} (k0:List G_Spot→Int→Option R):Option R :=
 (g.z86z a1 a2 (fun r8=>(bif (r8 != 0) then k0 [] r8 else (g.z72z a3 (fun r9=>(bif (r9 != 0) then k0 [] r9 else (g.kit_IsMode a4 (fun r10=>(bif (!r10) then k0 [] 4 else (g.z87z a5 a6 a7 (fun r11=>(bif (r11 != 0) then k0 [] r11 else (yaZy g g.N a1 a2 a4 a5 a6 a3 (a3.length:Int) 0 a7 [] (fun e26 e27 e28 e29 e30 e31=>(g.band_heard e26 e27 e28 e29 (fun r32 r33=>(ybey g g.N e26 (r32.length:Int) 0 e30 e31 r32 r33 [] (fun e50 e51=>(g.z39z e51 e50 (fun r52 r53=>k0 r52 0))))))))))))))))))))
noncomputable def yawy [Fuel]:C_band_Worth:=⟨NN,@z39z _,@z86z _,@z72z _,@kit_IsMode _,@z87z _,@z106z _,@band_heard _⟩
noncomputable def band_Worth [Fuel]:yiby:=@yjJy yawy
def yery (g:yiby):Spec A:=fun args=>match args with | [.d (.sl 69 a1),.d (.sl 52 a2),.d (.sl 77 a3),.d (.int .i64 a4),.d (.int .i64 a5),.d (.int .i64 a6),.d (.int .i64 a7)]=>fun k=>g a1 a2 a3 a4 a5 a6 a7 (fun z0 z1=>k (.tup [.arr 52 z0,.d (.int .i64 z1)]) [.undef,.undef,.undef,.undef,.undef,.undef,.undef]) | _=>fun _=>none
def ydXy:SSt:=mkSh 114 10 [(0,.sl 69),(1,.sl 52),(3,.int .i64),(4,.int .i64),(5,.int .i64),(13,.ptr 0 0),(19,.mp 1),(50,.sl 77),(51,.int .i64),(52,.int .i64)] [(0,.box [.int .i64]),(1,.mp 88 4)]
def ybVy (g:C_band_Worth) (n:Nat):LPT A:=fun ps=>match ps with | [.d (.sl 69 p1),.d (.sl 52 p2),.d (.int .i64 p3),.d (.int .i64 p4),.d (.int .i64 p5),.d (.sl 77 p6),.d (.int .i64 p7),.d (.int .i64 p8),.d (.int .i64 p9),.mp 88 4 p10]=>fun K=>yaZy g n p1 p2 p3 p4 p5 p6 p7 p8 p9 p10 (fun z0 z1 z2 z3 z4 z5=>K (.exit 0) (mkSt 114 10 [(0,.d (.sl 69 z0)),(1,.d (.sl 52 z1)),(4,.d (.int .i64 z2)),(5,.d (.int .i64 z3)),(13,.ptr 0 0),(19,.mp 1)] [(0,some (.box [.d (.int .i64 z4)])),(1,some (.mp 88 4 z5))])) | _=>fun _=>none
def ydVy:SSt:=mkSh 114 10 [(0,.sl 69),(13,.ptr 0 0),(19,.mp 1),(23,.own 3 4),(24,.own 52 5),(82,.own 52 3),(83,.int .i64),(84,.int .i64)] [(0,.box [.int .i64]),(1,.mp 88 4),(3,.row 52),(4,.row 3),(5,.row 52)]
def ybWy (g:C_band_Worth) (n:Nat):LPT A:=fun ps=>match ps with | [.d (.sl 69 p1),.d (.int .i64 p2),.d (.int .i64 p3),.d (.int .i64 p4),.mp 88 4 p5,.d (.sl 52 p6),.d (.sl 3 p7),.d (.sl 52 p8)]=>fun K=>ybey g n p1 p2 p3 p4 p5 p6 p7 p8 (fun z0 z1=>K (.exit 2) (mkSt 114 10 [(13,.ptr 0 0),(24,.own 52 5)] [(0,some (.box [.d (.int .i64 z0)])),(5,some (.row 52 z1))])) | _=>fun _=>none
noncomputable def yuny:Code:=(Tryz.f11.body).getD .skip
noncomputable def ycIy (g:C_band_Worth):Env A:=mkE [(39,ypGy g.z39z),(47,yj4y g.z86z),(48,ypgy g.z72z),(49,ybUy g.kit_IsMode),(50,yjOy g.z87z),(51,ykIy g.z106z),(52,ybdy g.band_heard)] [(13,[0]),(21,[2]),(26,[6]),(27,[9]),(49,[1]),(79,[3,4]),(106,[7]),(107,[8])] [(14,⟨[0,1,3,4,5,13,19,50,51,52],[],[0,1],[],[],[],[]⟩),(22,⟨[0,13,19,23,24,82,83,84],[(24,52,5)],[0,1,3,4],[],[],[],[]⟩)] [(14,⟨[0,1,4,5,13,19],[],[0,1],[],[],[],[]⟩),(22,⟨[13,24],[],[0,5],[],[],[],[]⟩)] [(14,yaey ydXy (ybVy g g.N)),(22,yaey ydVy (ybWy g g.N))] [(28,⟨[24,27],[],[5,9],[],[],[],[0]⟩)] [] [] [(39,0)] []
theorem ymIy [Fuel]:yagy (ycIy yawy).C:=ct_of (P:=Tryz.prog) (T:=T) (.cons yB1y (.cons yoxy (.cons yB6y (.cons ycfy (.cons yowy (.cons yqYy (.cons yepy .nil))))))) (by kernel_rfl)
noncomputable def yhGy:Code:=sub [1,1,1,1,1,1,0,1,0,0] yuny
theorem yrcy (g:C_band_Worth) (n:Nat):yahy (ycIy g) g.N yhGy ydXy (ybVy g) n:=by intro ps; unfold ybVy; split; exact .inr fun R K=>(by kernel_rfl); exact .inl fun R K=>rfl
theorem ypVy [Fuel]:yacy (ycIy yawy) NN yhGy:=yaby ydXy (ybVy yawy) (by kernel_rfl) ymIy (cuts0 (fun _=>rfl) (by kernel_rfl)) (fun ps R K=>by unfold ybVy; split <;> (try unfold yaZy) <;> rfl) (yrcy yawy)
noncomputable def yhDy:Code:=sub [1,1,1,1,1,1,1,1,1,0,1,0,0] yuny
theorem yq9y (g:C_band_Worth) (n:Nat):yahy (ycIy g) g.N yhDy ydVy (ybWy g) n:=by intro ps; unfold ybWy; split; exact .inr fun R K=>(by kernel_rfl); exact .inl fun R K=>rfl
theorem ypYy [Fuel]:yacy (ycIy yawy) NN yhDy:=yaby ydVy (ybWy yawy) (by kernel_rfl) ymIy (cuts0 (fun _=>rfl) (by kernel_rfl)) (fun ps R K=>by unfold ybWy; split <;> (try unfold ybey) <;> rfl) (yq9y yawy)
theorem ywpy (g:C_band_Worth):Same (yery (@yjJy g)) (abody (ycIy g) Tryz.f11 yuny 10 [] [.arr 52,.asis] g.N):=by intro args; unfold yery; split; exact .inr fun R k=>(by kernel_rfl); exact .inl fun R k=>rfl
theorem ywDy [Fuel]:Ok 11 (yery (@band_Worth _)):=yaay std (.cons yB1y (.cons yoxy (.cons yB6y (.cons ycfy (.cons yowy (.cons yqYy (.cons yepy .nil))))))) ⟨rfl,rfl,by kernel_rfl,rfl,rfl,rfl⟩ (ywpy yawy) (cutsL (fun _=>rfl) (.cons ypVy (.cons ypYy .nil)) (by kernel_rfl)) Tryz.func11 (by kernel_rfl) (by kernel_rfl)
abbrev ysSy:Type 1:=List G_Spot→{R:Type}→(List G_Spot→Option R)→Option R
def z90z [Fuel]:ysSy:=@ygmy G_Spot 48
def yh9y (g:ysSy):Spec A:=fun args=>match args with | [.d (.sl 52 x1)]=>fun k=>g x1 (fun z=>k (.arr 52 z) [.undef]) | _=>fun _=>none
theorem yBUy [Fuel] (xs:List (A 52)) (R:Type) (k:IV A→List (IV A)→Option R):yh9y (@z90z _) [.d (.sl 52 xs)] k = ygmy 48 xs (fun z=>k (.arr 52 z) [.undef]):=by kernel_rfl
theorem yCCy [Fuel] (args:List (IV A)) (R:Type) (k:IV A→List (IV A)→Option R) (h:∀ xs:List (A 52),args ≠ [.d (.sl 52 xs)]):yh9y (@z90z _) args k = none:=by unfold yh9y; split; exact absurd rfl (h _); rfl
theorem ypmy [Fuel]:Ok 104 (yh9y (@z90z _)):=⟨yHhy (yATy rfl (tyOk Tryz.prog) (e:=52) (size:=4) (bytes:=48) (ty:=52) (by kernel_rfl) (fun n c w=>AnyE.slices_Clone_nil Tryz.clone104 n c w) (fun b off n c news w h1 h2 h3 h4 h5=>AnyE.slices_Clone Tryz.clone104 Tryz.ti52 Tryz.zv52 4 48 (by kernel_rfl) (by kernel_rfl) (by kernel_rfl) (by kernel_rfl) (by kernel_rfl) (by decide) Tryz.sizeOf52 b off n c news w h1 h2 h3 h4 h5)) yBUy yCCy,yIuy yBUy yCCy,ybMy (fn:=Tryz.f104) Tryz.func104 (by kernel_rfl) (by kernel_rfl)⟩
abbrev ytTy:Type 1:=G_Spot→Int→{R:Type}→(Int→Option R)→Option R
def z117z_ (g:Nat) (a1:G_Spot) (a2:Int) {R:Type} (k0:Int→Option R):Option R :=
 k0 (if (w64 (a2 - a1.f_Hertz)) > (w64 (a1.f_Hertz - a2)) then (w64 (a2 - a1.f_Hertz)) else (w64 (a1.f_Hertz - a2)))
noncomputable def z117z [Fuel]:ytTy:=@z117z_ NN
def yk9y (g:ytTy):Spec A:=fun args=>match args with | [.agg [.d (.int .i64 a1),.d (.int .i64 a2),.d (.str a3),.d (.str a4)],.cel [.int .i64 a5] 0]=>fun k=>g ⟨a1,a2,a3,a4⟩ a5 (fun z0=>k (.d (.int .i64 z0)) [.undef,.undef]) | _=>fun _=>none
noncomputable def yIgy:Code:=(Tryz.f103.body).getD .skip
noncomputable def yNyy (g:Nat):Env A:=mkE [] [(2,[0])] [] [] [] [] [] [] [] []
theorem yHky (g:Nat):Same (yk9y (@z117z_ g)) (abody (yNyy g) Tryz.f103 yIgy 1 [] [.asis] g):=by intro args; unfold yk9y; split; exact .inr fun R k=>(by kernel_rfl); exact .inl fun R k=>rfl
theorem yITy [Fuel]:Ok 103 (yk9y (@z117z _)):=yaay std .nil ⟨rfl,rfl,by kernel_rfl,rfl,rfl,rfl⟩ (yHky NN) (cuts0 (fun _=>rfl) (by kernel_rfl)) Tryz.func103 (by kernel_rfl) (by kernel_rfl)
abbrev ytZy:Type 1:=G_Spot→Int→Bool→{R:Type}→(Bool→Option R)→Option R
def z108z_ (g:Nat) (a1:G_Spot) (a2:Int) (a3:Bool) {R:Type} (k0:Bool→Option R):Option R :=
 (bif (a1.f_Hertz == a2) then k0 true else k0 ((decide (a1.f_Hertz < a2)) == a3))
noncomputable def z108z [Fuel]:ytZy:=@z108z_ NN
def ylry (g:ytZy):Spec A:=fun args=>match args with | [.agg [.d (.int .i64 a1),.d (.int .i64 a2),.d (.str a3),.d (.str a4)],.cel [.int .i64 a5] 0,.cel [.bool a6] 0]=>fun k=>g ⟨a1,a2,a3,a4⟩ a5 a6 (fun z0=>k (.d (.bool z0)) [.undef,.undef,.undef]) | _=>fun _=>none
noncomputable def yH1y:Code:=(Tryz.f102.body).getD .skip
noncomputable def yJHy (g:Nat):Env A:=mkE [] [(3,[0])] [] [] [] [] [] [] [] []
theorem yHEy (g:Nat):Same (ylry (@z108z_ g)) (abody (yJHy g) Tryz.f102 yH1y 1 [] [.asis] g):=by intro args; unfold ylry; split; exact .inr fun R k=>(by kernel_rfl); exact .inl fun R k=>rfl
theorem yHMy [Fuel]:Ok 102 (ylry (@z108z _)):=yaay std .nil ⟨rfl,rfl,by kernel_rfl,rfl,rfl,rfl⟩ (yHEy NN) (cuts0 (fun _=>rfl) (by kernel_rfl)) Tryz.func102 (by kernel_rfl) (by kernel_rfl)
abbrev yyJy:Type 1:=G_Spot→G_Spot→Int→Bool→Int→{R:Type}→(Int→Int→Bool→Int→Option R)→Option R
structure C_z45z where
 N:Nat
 z108z:ytZy
 z117z:ytTy
def z45z_ (g:C_z45z) (a1 a2:G_Spot) (a3:Int) (a4:Bool) (a5:Int) {R:Type} (k0:Int→Int→Bool→Int→Option R):Option R :=
 (g.z108z a1 a3 a4 (fun r6=>(g.z108z a2 a3 a4 (fun r7=>(bif (!(r6 == r7)) then (bif r6 then k0 (-1) a3 a4 a5 else k0 1 a3 a4 a5) else (g.z117z a1 a5 (fun r8=>(g.z117z a2 a5 (fun r9=>k0 (w64 (r8 - r9)) a3 a4 a5)))))))))
noncomputable def yxXy [Fuel]:C_z45z:=⟨NN,@z108z _,@z117z _⟩
noncomputable def z45z [Fuel]:yyJy:=@z45z_ yxXy
def yoSy (g:yyJy):Spec A:=fun args=>match args with | [.agg [.d (.int .i64 a1),.d (.int .i64 a2),.d (.str a3),.d (.str a4)],.agg [.d (.int .i64 a5),.d (.int .i64 a6),.d (.str a7),.d (.str a8)],.box [.fn 102 [.cel [.int .i64 a9] 0,.cel [.bool a10] 0]],.box [.fn 103 [.cel [.int .i64 a11] 0]]]=>fun k=>g ⟨a1,a2,a3,a4⟩ ⟨a5,a6,a7,a8⟩ a9 a10 a11 (fun z0 z1 z2 z3=>k (.d (.int .i64 z0)) [.undef,.undef,.box [.fn 102 [.cel [.int .i64 z1] 0,.cel [.bool z2] 0]],.box [.fn 103 [.cel [.int .i64 z3] 0]]]) | _=>fun _=>none
noncomputable def yHby:Code:=(Tryz.f105.body).getD .skip
noncomputable def yPgy (g:C_z45z):Env A:=mkE [(102,ylry g.z108z),(103,yk9y g.z117z)] [(4,[2]),(5,[3])] [] [] [] [] [] [] [] [2,3]
theorem yMky (g:C_z45z):Same (yoSy (@z45z_ g)) (abody (yPgy g) Tryz.f105 yHby 4 [0,1] [.asis] g.N):=by intro args; unfold yoSy; split; exact .inr fun R k=>(by kernel_rfl); exact .inl fun R k=>rfl
theorem yBqy [Fuel]:Ok 105 (yoSy (@z45z _)):=yaay std (.cons yHMy (.cons yITy .nil)) ⟨rfl,rfl,by kernel_rfl,rfl,rfl,rfl⟩ (yMky yxXy) (cuts0 (fun _=>rfl) (by kernel_rfl)) Tryz.func105 (by kernel_rfl) (by kernel_rfl)
end Go.Am
