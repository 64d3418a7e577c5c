/- The functions of the program as Lean functions, each shown to be what the code computes, part 2. No condition: lemmas for the claim. -/
import Derived.Test.YtkcbebmbmffkjaaGreatDoorF0
import Derived.Test.YtkcbebmbmffkjaaGreatDoorFSh
import Derived.Test.YtkcbebmbmffkjaaGreatDoorF1
set_option linter.unusedVariables false
set_option maxRecDepth 100000
namespace Go.Am
open Go Go.Proofs
abbrev yw0y:Type 1:=List G_Spot→Int→Int→{R:Type}→(List G_Spot→Option R)→Option R
structure C_z11z where
 N:Nat
 z20z:ysAy
def z11z_L4 (g:C_z11z):Nat→Int→Int→Int→Int→List G_Spot→{R:Type}→(Int→Int→Int→List G_Spot→Option R)→Option R
 | 0,_,_,_,_,_,_,_=>none
 | n + 1,v31,v32,v33,v34,v35,_,e0=>(bif (decide (v34 > v31)) then (inr v35 v34 (at_ v35 v34 fun x43=>(inr v35 (w64 (v34 - 1)) (at_ v35 (w64 (v34 - 1)) fun x44=>(g.z20z x43 x44 (fun r45=>(bif (decide (r45 < 0)) then (inr v35 (w64 (v34 - 1)) (at_ v35 (w64 (v34 - 1)) fun x46=>(inr v35 v34 (at_ v35 v34 fun x47=>(inr v35 v34 (at_ v35 v34 fun x48=>(inr (set_ v35 v34 x46) (w64 (v34 - 1)) (at_ (set_ v35 v34 x46) (w64 (v34 - 1)) fun x49=>z11z_L4 g n v31 v32 v33 (w64 (v34 - 1)) (set_ (set_ v35 v34 x46) (w64 (v34 - 1)) x47) e0)))))))) else e0 v31 v32 v33 v35))))))) else e0 v31 v32 v33 v35)
def z11z_L1 (g:C_z11z):Nat→Int→Int→Int→List G_Spot→{R:Type}→(List G_Spot→Option R)→Option R
 | 0,_,_,_,_,_,_=>none
 | n + 1,v4,v5,v6,v7,_,e0=>(bif (decide (v6 < v5)) then (z11z_L4 g g.N v4 v5 v6 v6 v7 (fun e50 e51 e52 e53=>z11z_L1 g n e50 e51 (w64 (e52 + 1)) e53 e0)) else e0 v7)
def z11z_ (g:C_z11z) (a1:List G_Spot) (a2 a3:Int) {R:Type} (k0:List G_Spot→Option R):Option R :=
 (z11z_L1 g g.N a2 a3 (w64 (a2 + 1)) a1 (fun e54=>k0 e54))
noncomputable def yd1y [Fuel]:C_z11z:=⟨NN,@z20z _⟩
noncomputable def z11z [Fuel]:yw0y:=@z11z_ yd1y
def ypcy (g:yw0y):Spec A:=fun args=>match args with | [.arr 52 a1,.d (.int .i64 a2),.d (.int .i64 a3),.fn 40 []]=>fun k=>g a1 a2 a3 (fun z0=>k (.tup []) [.arr 52 z0,.undef,.undef,.fn 40 []]) | _=>fun _=>none
def ymqy:SSt:=mkSh 53 1 [(0,.own 52 0),(1,.int .i64),(2,.int .i64),(3,.fn 40 []),(8,.int .i64),(9,.int .i64)] [(0,.row 52)]
def yeTy (g:C_z11z) (n:Nat):LPT A:=fun ps=>match ps with | [.d (.int .i64 p1),.d (.int .i64 p2),.d (.int .i64 p3),.d (.int .i64 p4),.d (.sl 52 p5)]=>fun K=>z11z_L4 g n p1 p2 p3 p4 p5 (fun z0 z1 z2 z3=>K (.exit 2) (mkSt 53 1 [(0,.own 52 0),(1,.d (.int .i64 z0)),(2,.d (.int .i64 z1)),(3,.fn 40 []),(8,.d (.int .i64 z2))] [(0,some (.row 52 z3))])) | _=>fun _=>none
def ykRy:SSt:=mkSh 53 1 [(0,.own 52 0),(1,.int .i64),(2,.int .i64),(3,.fn 40 []),(8,.int .i64)] [(0,.row 52)]
def yf7y (g:C_z11z) (n:Nat):LPT A:=fun ps=>match ps with | [.d (.int .i64 p1),.d (.int .i64 p2),.d (.int .i64 p3),.d (.sl 52 p4)]=>fun K=>z11z_L1 g n p1 p2 p3 p4 (fun z0=>K (.exit 0) (mkSt 53 1 [(0,.own 52 0),(3,.fn 40 [])] [(0,some (.row 52 z0))])) | _=>fun _=>none
noncomputable def ybry:Code:=(Tryz.f128.body).getD .skip
noncomputable def yjMy (g:C_z11z):Env A:=mkE [(40,ykwy g.z20z)] [] [(4,⟨[0,1,2,3,8,9],[],[0],[],[],[],[]⟩),(1,⟨[0,1,2,3,8],[],[0],[],[],[],[]⟩)] [(4,⟨[0,1,2,3,8],[],[0],[],[],[],[]⟩),(1,⟨[0,3],[],[0],[],[],[],[]⟩)] [(4,yaey ymqy (yeTy g g.N)),(1,yaey ykRy (yf7y g g.N))] [] [] [] [] [0,3]
theorem yCSy [Fuel]:yagy (yjMy yd1y).C:=ct_of (P:=Tryz.prog) (T:=T) (.cons yo0y .nil) (by kernel_rfl)
noncomputable def yrIy:Code:=sub [1,0,0,1,0,0,1,0,0] ybry
theorem yGIy (g:C_z11z) (n:Nat):yahy (yjMy g) g.N yrIy ymqy (yeTy g) n:=by intro ps; unfold yeTy; split; exact .inr fun R K=>(by kernel_rfl); exact .inl fun R K=>rfl
theorem yrYy [Fuel]:yacy (yjMy yd1y) NN yrIy:=yaby ymqy (yeTy yd1y) (by kernel_rfl) yCSy (cuts0 (fun _=>rfl) (by kernel_rfl)) (fun ps R K=>by unfold yeTy; split <;> (try unfold z11z_L4) <;> rfl) (yGIy yd1y)
noncomputable def yr6y:Code:=sub [1,0,0] ybry
theorem yFhy (g:C_z11z) (n:Nat):yahy (yjMy g) g.N yr6y ykRy (yf7y g) n:=by intro ps; unfold yf7y; split; exact .inr fun R K=>(by kernel_rfl); exact .inl fun R K=>rfl
theorem yEHy [Fuel]:yacy (yjMy yd1y) NN yr6y:=yaby ykRy (yf7y yd1y) (by kernel_rfl) yCSy (cutsL (fun _=>rfl) (.cons yrYy .nil) (by kernel_rfl)) (fun ps R K=>by unfold yf7y; split <;> (try unfold z11z_L1) <;> rfl) (yFhy yd1y)
theorem yMFy (g:C_z11z):Same (ypcy (@z11z_ g)) (abody (yjMy g) Tryz.f128 ybry 1 [0] [] g.N):=by intro args; unfold ypcy; split; exact .inr fun R k=>(by kernel_rfl); exact .inl fun R k=>rfl
theorem yBvy [Fuel]:Ok 128 (ypcy (@z11z _)):=yaay std (.cons yo0y .nil) ⟨rfl,rfl,by kernel_rfl,rfl,rfl,rfl⟩ (yMFy yd1y) (cutsL (fun _=>rfl) (.cons yrYy (.cons yEHy .nil)) (by kernel_rfl)) Tryz.func128 (by kernel_rfl) (by kernel_rfl)
abbrev T_z8z:Type 1:=List G_Spot→Int→{R:Type}→(List G_Spot→Option R)→Option R
structure C_z8z where
 N:Nat
 z11z:yw0y
def z8z_L2 (g:C_z8z):Nat→Int→Int→Int→Int→List G_Spot→{R:Type}→(Int→Int→Int→List G_Spot→Option R)→Option R
 | 0,_,_,_,_,_,_,_=>none
 | n + 1,v3,v4,v5,v6,v7,_,e0=>(bif (decide (v6≤v3)) then (g.z11z v7 v5 v6 (fun r9=>z8z_L2 g n v3 v4 v6 (w64 (v6 + v4)) r9 e0)) else e0 v3 v4 v5 v7)
def z8z_L9 (g:C_z8z):Nat→Int→Int→Int→Int→List G_Spot→{R:Type}→(Int→Int→Int→List G_Spot→Option R)→Option R
 | 0,_,_,_,_,_,_,_=>none
 | n + 1,v27,v28,v29,v30,v31,_,e0=>(bif (decide (v30≤v27)) then none else e0 v27 v28 v29 v31)
def z8z_L7 (g:C_z8z):Nat→Int→Int→List G_Spot→{R:Type}→(List G_Spot→Option R)→Option R
 | 0,_,_,_,_,_=>none
 | n + 1,v15,v16,v17,_,e0=>(bif (decide (v16 < v15)) then (z8z_L9 g g.N v15 v16 0 (w64 (2 * v16)) v17 (fun e32 e33 e34 e35=>(bif (decide ((w64 (e34 + e33)) < e32)) then none else z8z_L7 g n e32 (w64 (e33 * 2)) e35 e0))) else e0 v17)
def z8z_ (g:C_z8z) (a1:List G_Spot) (a2:Int) {R:Type} (k0:List G_Spot→Option R):Option R :=
 (z8z_L2 g g.N a2 20 0 20 a1 (fun e10 e11 e12 e13=>(g.z11z e13 e12 e10 (fun r14=>(z8z_L7 g g.N e10 e11 r14 (fun e36=>k0 e36))))))
noncomputable def I_z8z [Fuel]:C_z8z:=⟨NN,@z11z _⟩
noncomputable def z8z [Fuel]:T_z8z:=@z8z_ I_z8z
def yrPy (g:T_z8z):Spec A:=fun args=>match args with | [.arr 52 a1,.d (.int .i64 a2),.fn 40 []]=>fun k=>g a1 a2 (fun z0=>k (.tup []) [.arr 52 z0,.undef,.fn 40 []]) | _=>fun _=>none
def ynNy:SSt:=mkSh 63 1 [(0,.own 52 0),(1,.int .i64),(2,.fn 40 []),(6,.int .i64),(7,.int .i64),(8,.int .i64)] [(0,.row 52)]
def yhby (g:C_z8z) (n:Nat):LPT A:=fun ps=>match ps with | [.d (.int .i64 p1),.d (.int .i64 p2),.d (.int .i64 p3),.d (.int .i64 p4),.d (.sl 52 p5)]=>fun K=>z8z_L2 g n p1 p2 p3 p4 p5 (fun z0 z1 z2 z3=>K (.exit 0) (mkSt 63 1 [(0,.own 52 0),(1,.d (.int .i64 z0)),(2,.fn 40 []),(6,.d (.int .i64 z1)),(7,.d (.int .i64 z2))] [(0,some (.row 52 z3))])) | _=>fun _=>none
def ynly:SSt:=mkSh 63 1 [(0,.own 52 0),(1,.int .i64),(2,.fn 40 []),(6,.int .i64),(7,.int .i64),(8,.int .i64)] [(0,.row 52)]
def yg4y (g:C_z8z) (n:Nat):LPT A:=fun ps=>match ps with | [.d (.int .i64 p1),.d (.int .i64 p2),.d (.int .i64 p3),.d (.int .i64 p4),.d (.sl 52 p5)]=>fun K=>z8z_L9 g n p1 p2 p3 p4 p5 (fun z0 z1 z2 z3=>K (.exit 4) (mkSt 63 1 [(0,.own 52 0),(1,.d (.int .i64 z0)),(2,.fn 40 []),(6,.d (.int .i64 z1)),(7,.d (.int .i64 z2))] [(0,some (.row 52 z3))])) | _=>fun _=>none
def yn8y:SSt:=mkSh 63 1 [(0,.own 52 0),(1,.int .i64),(2,.fn 40 []),(6,.int .i64)] [(0,.row 52)]
def yhgy (g:C_z8z) (n:Nat):LPT A:=fun ps=>match ps with | [.d (.int .i64 p1),.d (.int .i64 p2),.d (.sl 52 p3)]=>fun K=>z8z_L7 g n p1 p2 p3 (fun z0=>K (.exit 2) (mkSt 63 1 [(0,.own 52 0),(2,.fn 40 [])] [(0,some (.row 52 z0))])) | _=>fun _=>none
noncomputable def ya8y:Code:=(Tryz.f89.body).getD .skip
noncomputable def E_z8z (g:C_z8z):Env A:=mkE [(128,ypcy g.z11z)] [] [(2,⟨[0,1,2,6,7,8],[],[0],[],[],[],[]⟩),(9,⟨[0,1,2,6,7,8],[],[0],[],[],[],[]⟩),(7,⟨[0,1,2,6],[],[0],[],[],[],[]⟩)] [(2,⟨[0,1,2,6,7],[],[0],[],[],[],[]⟩),(9,⟨[0,1,2,6,7],[],[0],[],[],[],[]⟩),(7,⟨[0,2],[],[0],[],[],[],[]⟩)] [(2,yaey ynNy (yhby g g.N)),(9,yaey ynly (yg4y g g.N)),(7,yaey yn8y (yhgy g g.N))] [] [] [] [(128,0)] [0,2]
theorem yxvy [Fuel]:yagy (E_z8z I_z8z).C:=ct_of (P:=Tryz.prog) (T:=T) (.cons yBvy .nil) (by kernel_rfl)
noncomputable def yvzy:Code:=sub [1,1,0,0,0] ya8y
theorem yHUy (g:C_z8z) (n:Nat):yahy (E_z8z g) g.N yvzy ynNy (yhby g) n:=by intro ps; unfold yhby; split; exact .inr fun R K=>(by kernel_rfl); exact .inl fun R K=>rfl
theorem yEOy [Fuel]:yacy (E_z8z I_z8z) NN yvzy:=yaby ynNy (yhby I_z8z) (by kernel_rfl) yxvy (cuts0 (fun _=>rfl) (by kernel_rfl)) (fun ps R K=>by unfold yhby; split <;> (try unfold z8z_L2) <;> rfl) (yHUy I_z8z)
noncomputable def yvFy:Code:=sub [1,1,1,1,0,0,1,0,1,0,0,0] ya8y
theorem yH4y (g:C_z8z) (n:Nat):yahy (E_z8z g) g.N yvFy ynly (yg4y g) n:=by intro ps; unfold yg4y; split; exact .inr fun R K=>(by kernel_rfl); exact .inl fun R K=>rfl
theorem yvsy [Fuel]:yacy (E_z8z I_z8z) NN yvFy:=yaby ynly (yg4y I_z8z) (by kernel_rfl) yxvy (cuts0 (fun _=>rfl) (by kernel_rfl)) (fun ps R K=>by unfold yg4y; split <;> (try unfold z8z_L9) <;> rfl) (yH4y I_z8z)
noncomputable def yvly:Code:=sub [1,1,1,1,0,0] ya8y
theorem yI3y (g:C_z8z) (n:Nat):yahy (E_z8z g) g.N yvly yn8y (yhgy g) n:=by intro ps; unfold yhgy; split; exact .inr fun R K=>(by kernel_rfl); exact .inl fun R K=>rfl
theorem yFny [Fuel]:yacy (E_z8z I_z8z) NN yvly:=yaby yn8y (yhgy I_z8z) (by kernel_rfl) yxvy (cutsL (fun _=>rfl) (.cons yvsy .nil) (by kernel_rfl)) (fun ps R K=>by unfold yhgy; split <;> (try unfold z8z_L7) <;> rfl) (yI3y I_z8z)
theorem yPuy (g:C_z8z):Same (yrPy (@z8z_ g)) (abody (E_z8z g) Tryz.f89 ya8y 1 [0] [] g.N):=by intro args; unfold yrPy; split; exact .inr fun R k=>(by kernel_rfl); exact .inl fun R k=>rfl
theorem yPMy [Fuel]:Ok 89 (yrPy (@z8z _)):=yaay std (.cons yBvy .nil) ⟨rfl,rfl,by kernel_rfl,rfl,rfl,rfl⟩ (yPuy I_z8z) (cutsL (fun _=>rfl) (.cons yEOy (.cons yvsy (.cons yFny .nil))) (by kernel_rfl)) Tryz.func89 (by kernel_rfl) (by kernel_rfl)
abbrev yxty:Type 1:=List G_Spot→{R:Type}→(List G_Spot→Option R)→Option R
structure C_z51z where
 N:Nat
 z8z:T_z8z
def z51z_ (g:C_z51z) (a1:List G_Spot) {R:Type} (k0:List G_Spot→Option R):Option R :=
 (g.z8z a1 (a1.length:Int) (fun r2=>k0 r2))
noncomputable def yzzy [Fuel]:C_z51z:=⟨NN,@z8z _⟩
noncomputable def z51z [Fuel]:yxty:=@z51z_ yzzy
def ypuy (g:yxty):Spec A:=fun args=>match args with | [.arr 52 a1,.fn 40 []]=>fun k=>g a1 (fun z0=>k (.tup []) [.arr 52 z0,.fn 40 []]) | _=>fun _=>none
noncomputable def yjQy:Code:=(Tryz.f39.body).getD .skip
noncomputable def yQcy (g:C_z51z):Env A:=mkE [(89,yrPy g.z8z)] [] [] [] [] [] [] [] [(89,0)] [0,1]
theorem yJAy (g:C_z51z):Same (ypuy (@z51z_ g)) (abody (yQcy g) Tryz.f39 yjQy 1 [0] [] g.N):=by intro args; unfold ypuy; split; exact .inr fun R k=>(by kernel_rfl); exact .inl fun R k=>rfl
theorem yBKy [Fuel]:Ok 39 (ypuy (@z51z _)):=yaay std (.cons yPMy .nil) ⟨rfl,rfl,by kernel_rfl,rfl,rfl,rfl⟩ (yJAy yzzy) (cuts0 (fun _=>rfl) (by kernel_rfl)) Tryz.func39 (by kernel_rfl) (by kernel_rfl)
abbrev ywOy:Type 1:=List G_Spot→{R:Type}→(List G_Spot→Option R)→Option R
def z42z_L9 (g:Nat):Nat→Int→Int→Int→Int→List G_Spot→{R:Type}→(Int→List G_Spot→Option R)→Option R
 | 0,_,_,_,_,_,_,_=>none
 | n + 1,v23,v24,v25,v26,v27,_,e0=>(bif (decide (v26 < ((v25 - v24).toNat:Int))) then (bif (decide (0≤v26) && (decide (v26 < v25 - v24) && decide (v24 + v26 < (v27.length:Int)))) then (at_ v27 (v24 + v26) fun x32=>(bif (decide (0≤(w64 (v26 - 1))) && (decide ((w64 (v26 - 1)) < v25 - v24) && decide (v24 + (w64 (v26 - 1)) < (v27.length:Int)))) then (at_ v27 (v24 + (w64 (v26 - 1))) fun x33=>(bif (!(ybty x32 x33)) then (bif (decide (0≤v26) && (decide (v26 < v25 - v24) && decide (v24 + v26 < (v27.length:Int)))) then (at_ v27 (v24 + v26) fun x34=>(inr v27 v23 (at_ v27 v23 fun x35=>z42z_L9 g n (w64 (v23 + 1)) v24 v25 (w64 (v26 + 1)) (set_ v27 v23 x34) e0))) else none) else z42z_L9 g n v23 v24 v25 (w64 (v26 + 1)) v27 e0)) else none)) else none) else e0 v23 v27)
def z42z_L4 (g:Nat):Nat→Int→List G_Spot→{R:Type}→(List G_Spot→Option R)→(List G_Spot→Option R)→Option R
 | 0,_,_,_,_,_=>none
 | n + 1,v2,v3,_,e0,e1=>(bif (decide (v2 < (v3.length:Int))) then (inr v3 v2 (at_ v3 v2 fun x21=>(inr v3 (w64 (v2 - 1)) (at_ v3 (w64 (v2 - 1)) fun x22=>(bif (ybty x21 x22) then (bif (decide (0 < v3.length) && (decide (0≤v2) && decide (v2≤(v3.length:Int)))) then (z42z_L9 g g v2 v2 (v3.length:Int) 1 v3 (fun e36 e37=>(bif (decide (0 < e37.length) && (decide (0≤e36) && decide (e36≤(e37.length:Int)))) then (bif (decide (0≤e36) && (decide (e36≤(e37.length:Int)) && decide (((e37.length:Int)).toNat≤e37.length))) then (bif (decide (0≤e36) && decide (e36≤((e37.take (e36).toNat ++ (List.replicate ((e37.length:Int) - e36).toNat (⟨0,0,[],[]⟩:G_Spot) ++ e37.drop ((e37.length:Int)).toNat)).length:Int))) then e0 ((e37.take (e36).toNat ++ (List.replicate ((e37.length:Int) - e36).toNat (⟨0,0,[],[]⟩:G_Spot) ++ e37.drop ((e37.length:Int)).toNat)).take (e36:Int).toNat) else none) else none) else none))) else none) else z42z_L4 g n (w64 (v2 + 1)) v3 e0 e1))))) else e1 v3)
def z42z_ (g:Nat) (a1:List G_Spot) {R:Type} (k0:List G_Spot→Option R):Option R :=
 (bif (decide ((a1.length:Int) < 2)) then k0 a1 else (z42z_L4 g g 1 a1 (fun e38=>k0 e38) (fun e39=>k0 e39)))
noncomputable def z42z [Fuel]:ywOy:=@z42z_ NN
def yply (g:ywOy):Spec A:=fun args=>match args with | [.arr 52 a1]=>fun k=>g a1 (fun z0=>k (.arr 52 z0) [.undef]) | _=>fun _=>none
def ykWy:SSt:=mkSh 61 6 [(0,.own 52 0),(3,.int .i64),(4,.vw 52 0),(5,.int .i64)] [(0,.row 52)]
def yfUy (g:Nat) (n:Nat):LPT A:=fun ps=>match ps with | [.d (.int .i64 p1),.z p2,.z p3,.d (.int .i64 p4),.d (.sl 52 p5)]=>fun K=>z42z_L9 g n p1 p2 p3 p4 p5 (fun z0 z1=>K (.exit 2) (mkSt 61 6 [(0,.own 52 0),(3,.d (.int .i64 z0))] [(0,some (.row 52 z1))])) | _=>fun _=>none
def ykLy:SSt:=mkSh 61 6 [(0,.own 52 0),(3,.int .i64)] [(0,.row 52)]
def yfvy (g:Nat) (n:Nat):LPT A:=fun ps=>match ps with | [.d (.int .i64 p1),.d (.sl 52 p2)]=>fun K=>z42z_L4 g n p1 p2 (fun z0=>K .ret (mkSt 61 6 [(0,.own 52 0),(2,.own 52 5)] [(5,some (.row 52 z0))])) (fun z0=>K (.exit 0) (mkSt 61 6 [(0,.own 52 0)] [(0,some (.row 52 z0))])) | _=>fun _=>none
noncomputable def yuEy:Code:=(Tryz.f41.body).getD .skip
noncomputable def yjYy (g:Nat):Env A:=mkE [] [(28,[1,2]),(56,[3,4]),(59,[5])] [(9,⟨[0,3,4,5],[],[0],[],[],[],[]⟩),(4,⟨[0,3],[],[0],[],[],[],[]⟩)] [(9,⟨[0,3],[],[0],[],[],[],[]⟩),(4,⟨[0,2],[],[0,5],[],[],[],[]⟩)] [(9,yaey ykWy (yfUy g g)),(4,yaey ykLy (yfvy g g))] [] [] [] [] []
theorem yCUy [Fuel]:yagy (yjYy NN).C:=ct_of (P:=Tryz.prog) (T:=T) .nil (by kernel_rfl)
noncomputable def ytEy:Code:=sub [1,1,0,1,0,0,1,0,0,1,0,1,0,1,0,0] yuEy
theorem yFky (g:Nat) (n:Nat):yahy (yjYy g) g ytEy ykWy (yfUy g) n:=by intro ps; unfold yfUy; split; exact .inr fun R K=>(by kernel_rfl); exact .inl fun R K=>rfl
theorem ysDy [Fuel]:yacy (yjYy NN) NN ytEy:=yaby ykWy (yfUy NN) (by kernel_rfl) yCUy (cuts0 (fun _=>rfl) (by kernel_rfl)) (fun ps R K=>by unfold yfUy; split <;> (try unfold z42z_L9) <;> rfl) (yFky NN)
noncomputable def yr4y:Code:=sub [1,1,0,1,0,0] yuEy
theorem yEVy (g:Nat) (n:Nat):yahy (yjYy g) g yr4y ykLy (yfvy g) n:=by intro ps; unfold yfvy; split; exact .inr fun R K=>(by kernel_rfl); exact .inl fun R K=>rfl
theorem yC9y [Fuel]:yacy (yjYy NN) NN yr4y:=yaby ykLy (yfvy NN) (by kernel_rfl) yCUy (cutsL (fun _=>rfl) (.cons ysDy .nil) (by kernel_rfl)) (fun ps R K=>by unfold yfvy; split <;> (try unfold z42z_L4) <;> rfl) (yEVy NN)
theorem yOwy (g:Nat):Same (yply (@z42z_ g)) (abody (yjYy g) Tryz.f41 yuEy 6 [0] [.arr 52] g):=by intro args; unfold yply; split; exact .inr fun R k=>(by kernel_rfl); exact .inl fun R k=>rfl
theorem yCKy [Fuel]:Ok 41 (yply (@z42z _)):=yaay std .nil ⟨rfl,rfl,by kernel_rfl,rfl,rfl,rfl⟩ (yOwy NN) (cutsL (fun _=>rfl) (.cons ysDy (.cons yC9y .nil)) (by kernel_rfl)) Tryz.func41 (by kernel_rfl) (by kernel_rfl)
abbrev ywUy:Type 1:=G_Stream→Int→{R:Type}→(List G_Spot→G_Stream→Option R)→Option R
structure C_z68z where
 N:Nat
 z65z:ye5y
 z76z:yfry
 z59z:yj7y
 Stream_Odd:ycEy
 z95z:ytjy
 z51z:yxty
 z42z:ywOy
def z68z_L4 (g:C_z68z):Nat→Int→Int→Int→G_Stream→List G_Spot→{R:Type}→(G_Stream→List G_Spot→Option R)→Option R
 | 0,_,_,_,_,_,_,_=>none
 | n + 1,v3,v4,v5,v6,v7,_,e0=>(bif (decide (v5 < v4)) then (g.z65z v6 [0,1,5,20] (fun r24 r25=>(g.z65z r25 [7000000,7100000,7299999,7300000,14000000,14010000,14020000,14020000,1800000,5000000] (fun r26 r27=>(g.z95z r27 (fun r28 r29=>(g.z59z r29 [[119,49,97,119],[110,49,109,109]] (fun r30 r31=>(g.z76z r31 80 (fun r32 r33=>(bif r32 then (g.Stream_Odd r33 0 100 (fun r34 r35=>(g.Stream_Odd r35 0 30000000000 (fun r36 r37=>(g.z59z r37 [[],[119,49,97,119]] (fun r38 r39=>(bif (decide ((v7.length + [(⟨r34,r36,r28,r38⟩:G_Spot)].length) * 48≤yazy)) then z68z_L4 g n (w64 (v3 + r24)) v4 (w64 (v5 + 1)) r39 (v7 ++ [(⟨r34,r36,r28,r38⟩:G_Spot)]) e0 else none))))))) else (bif (decide ((v7.length + [(⟨(w64 (v3 + r24)),r26,r28,r30⟩:G_Spot)].length) * 48≤yazy)) then z68z_L4 g n (w64 (v3 + r24)) v4 (w64 (v5 + 1)) r33 (v7 ++ [(⟨(w64 (v3 + r24)),r26,r28,r30⟩:G_Spot)]) e0 else none)))))))))))) else e0 v6 v7)
def z68z_ (g:C_z68z) (a1:G_Stream) (a2:Int) {R:Type} (k0:List G_Spot→G_Stream→Option R):Option R :=
 (z68z_L4 g g.N 0 a2 0 a1 [] (fun e40 e41=>(g.z51z e41 (fun r42=>(g.z42z r42 (fun r43=>k0 r43 e40))))))
noncomputable def ycqy [Fuel]:C_z68z:=⟨NN,@z65z _,@z76z _,@z59z _,@Stream_Odd _,@z95z _,@z51z _,@z42z _⟩
noncomputable def z68z [Fuel]:ywUy:=@z68z_ ycqy
def yppy (g:ywUy):Spec A:=fun args=>match args with | [.box [.d (.sl 3 a1),.d (.int .i64 a2)],.d (.int .i64 a3)]=>fun k=>g ⟨a1,a2⟩ a3 (fun z0 z1=>k (.arr 52 z0) [.box [.d (.sl 3 z1.f_L),.d (.int .i64 z1.f_at)],.undef]) | _=>fun _=>none
def ylTy:SSt:=mkSh 47 10 [(0,.ptr 0 0),(5,.own 52 1),(6,.int .i64),(8,.int .i64),(9,.int .i64)] [(0,.box [.sl 3,.int .i64]),(1,.row 52)]
def ygcy (g:C_z68z) (n:Nat):LPT A:=fun ps=>match ps with | [.d (.int .i64 p1),.d (.int .i64 p2),.d (.int .i64 p3),.d (.sl 3 p4),.d (.int .i64 p5),.d (.sl 52 p6)]=>fun K=>z68z_L4 g n p1 p2 p3 ⟨p4,p5⟩ p6 (fun z0 z1=>K (.exit 0) (mkSt 47 10 [(0,.ptr 0 0),(5,.own 52 1)] [(0,some (.box [.d (.sl 3 z0.f_L),.d (.int .i64 z0.f_at)])),(1,some (.row 52 z1))])) | _=>fun _=>none
noncomputable def yETy:Code:=(Tryz.f6.body).getD .skip
noncomputable def ytuy (g:C_z68z):Env A:=mkE [(9,ydmy g.z65z),(34,ydky g.z76z),(36,ygpy g.z59z),(37,ybTy g.Stream_Odd),(38,ykuy g.z95z),(39,ypuy g.z51z),(41,yply g.z42z)] [(7,[5]),(13,[2]),(18,[3]),(23,[4]),(33,[6]),(40,[7]),(41,[8]),(46,[9])] [(4,⟨[0,5,6,8,9],[(5,52,1)],[0],[],[],[],[]⟩)] [(4,⟨[0,5],[],[0,1],[],[],[],[]⟩)] [(4,yaey ylTy (ygcy g g.N))] [] [] [] [(39,0),(41,0)] [0]
theorem yMuy [Fuel]:yagy (ytuy ycqy).C:=ct_of (P:=Tryz.prog) (T:=T) (.cons ydRy (.cons ydPy (.cons ykay (.cons ydby (.cons yuFy (.cons yBKy (.cons yCKy .nil))))))) (by kernel_rfl)
noncomputable def ytpy:Code:=sub [1,1,1,0,1,0,0] yETy
theorem yFmy (g:C_z68z) (n:Nat):yahy (ytuy g) g.N ytpy ylTy (ygcy g) n:=by intro ps; unfold ygcy; split; exact .inr fun R K=>(by kernel_rfl); exact .inl fun R K=>rfl
theorem yDvy [Fuel]:yacy (ytuy ycqy) NN ytpy:=yaby ylTy (ygcy ycqy) (by kernel_rfl) yMuy (cuts0 (fun _=>rfl) (by kernel_rfl)) (fun ps R K=>by unfold ygcy; split <;> (try unfold z68z_L4) <;> rfl) (yFmy ycqy)
theorem yMty (g:C_z68z):Same (yppy (@z68z_ g)) (abody (ytuy g) Tryz.f6 yETy 10 [0] [.arr 52] g.N):=by intro args; unfold yppy; split; exact .inr fun R k=>(by kernel_rfl); exact .inl fun R k=>rfl
theorem yKDy [Fuel]:Ok 6 (yppy (@z68z _)):=yaay std (.cons ydRy (.cons ydPy (.cons ykay (.cons ydby (.cons yuFy (.cons yBKy (.cons yCKy .nil))))))) ⟨rfl,rfl,by kernel_rfl,rfl,rfl,rfl⟩ (yMty ycqy) (cutsL (fun _=>rfl) (.cons yDvy .nil) (by kernel_rfl)) Tryz.func6 (by kernel_rfl) (by kernel_rfl)
abbrev yw6y:Type 1:=G_Stream→Int→{R:Type}→(G_Contact→G_Stream→Option R)→Option R
structure C_z89z where
 N:Nat
 z65z:ye5y
 z76z:yfry
 z80z:yg8y
 z59z:yj7y
 Stream_Odd:ycEy
 z95z:ytjy
def z89z_ (g:C_z89z) (a1:G_Stream) (a2:Int) {R:Type} (k0:G_Contact→G_Stream→Option R):Option R :=
 (g.z65z a1 [1,1,2,3] (fun r3 r4=>(g.z59z r4 [[98,50,48],[98,50,48],[98,52,48]] (fun r5 r6=>(g.z95z r6 (fun r7 r8=>(g.z65z r8 [0,1,2,3,4,5,6,7] (fun r9 r10=>(g.z65z r10 [0,1,2,9] (fun r11 r12=>(g.z59z r12 [[],[],[102,105,110]] (fun r13 r14=>(g.z59z r14 [[],[],[117,115,97]] (fun r15 r16=>(g.z76z r16 100 (fun r17 r18=>(bif r17 then (g.z80z r18 4 (fun r19 r20=>(bif (r19 == 0) then (g.Stream_Odd r20 0 500 (fun r21 r22=>(g.Stream_Odd r22 1 3 (fun r23 r24=>k0 (⟨r21,r23,r5,r7,r9,r11,r13,r15⟩:G_Contact) r24)))) else (bif (r19 == 1) then (g.z59z r20 [[],[66],[98,50,48]] (fun r25 r26=>k0 (⟨a2,r3,r25,r7,r9,r11,r13,r15⟩:G_Contact) r26)) else (bif (r19 == 2) then (g.Stream_Odd r20 0 99999 (fun r27 r28=>(g.Stream_Odd r28 0 99999 (fun r29 r30=>k0 (⟨a2,r3,r5,r7,r27,r29,r13,r15⟩:G_Contact) r30)))) else (g.z59z r20 [[],[65]] (fun r31 r32=>(g.z59z r32 [[49],[117,115,97]] (fun r33 r34=>k0 (⟨a2,r3,r5,r7,r9,r11,r31,r33⟩:G_Contact) r34))))))))) else k0 (⟨a2,r3,r5,r7,r9,r11,r13,r15⟩:G_Contact) r18)))))))))))))))))
noncomputable def yz6y [Fuel]:C_z89z:=⟨NN,@z65z _,@z76z _,@z80z _,@z59z _,@Stream_Odd _,@z95z _⟩
noncomputable def z89z [Fuel]:yw6y:=@z89z_ yz6y
def yo7y (g:yw6y):Spec A:=fun args=>match args with | [.box [.d (.sl 3 a1),.d (.int .i64 a2)],.d (.int .i64 a3)]=>fun k=>g ⟨a1,a2⟩ a3 (fun z0 z1=>k (.agg [.d (.int .i64 z0.f_At),.d (.int .i64 z0.f_Mode),.d (.str z0.f_Band),.d (.str z0.f_Call),.d (.int .i64 z0.f_Sent),.d (.int .i64 z0.f_Heard),.d (.str z0.f_Gave),.d (.str z0.f_Got)]) [.box [.d (.sl 3 z1.f_L),.d (.int .i64 z1.f_at)],.undef]) | _=>fun _=>none
noncomputable def yOby:Code:=(Tryz.f42.body).getD .skip
noncomputable def yPfy (g:C_z89z):Env A:=mkE [(9,ydmy g.z65z),(34,ydky g.z76z),(35,ydLy g.z80z),(36,ygpy g.z59z),(37,ybTy g.Stream_Odd),(38,ykuy g.z95z)] [(4,[1]),(5,[8]),(8,[2]),(11,[3]),(16,[4]),(19,[5]),(22,[6]),(25,[7]),(33,[10]),(36,[11]),(51,[9])] [] [] [] [] [] [] [] [0]
theorem yNfy (g:C_z89z):Same (yo7y (@z89z_ g)) (abody (yPfy g) Tryz.f42 yOby 12 [0] [.asis] g.N):=by intro args; unfold yo7y; split; exact .inr fun R k=>(by kernel_rfl); exact .inl fun R k=>rfl
theorem yC2y [Fuel]:Ok 42 (yo7y (@z89z _)):=yaay std (.cons ydRy (.cons ydPy (.cons yh1y (.cons ykay (.cons ydby (.cons yuFy .nil)))))) ⟨rfl,rfl,by kernel_rfl,rfl,rfl,rfl⟩ (yNfy yz6y) (cuts0 (fun _=>rfl) (by kernel_rfl)) Tryz.func42 (by kernel_rfl) (by kernel_rfl)
abbrev ygiy:Type 1:=Int→{R:Type}→(Int→Option R)→Option R
def yupy (g:Nat) (a1:Int) {R:Type} (k0:Int→Option R):Option R :=
 (bif (decide (a1 < 0)) then k0 (-1) else (bif (decide (a1 > 0)) then k0 1 else k0 0))
noncomputable def Q_sign [Fuel]:ygiy:=@yupy NN
def ydHy (g:ygiy):Spec A:=fun args=>match args with | [.d (.int .i64 a1)]=>fun k=>g a1 (fun z0=>k (.d (.int .i64 z0)) [.undef]) | _=>fun _=>none
noncomputable def yMjy:Code:=(Tryz.f70.body).getD .skip
noncomputable def yHIy (g:Nat):Env A:=mkE [] [] [] [] [] [] [] [] [] []
theorem yGpy (g:Nat):Same (ydHy (@yupy g)) (abody (yHIy g) Tryz.f70 yMjy 0 [] [.asis] g):=by intro args; unfold ydHy; split; exact .inr fun R k=>(by kernel_rfl); exact .inl fun R k=>rfl
theorem yi8y [Fuel]:Ok 70 (ydHy (@Q_sign _)):=yaay std .nil ⟨rfl,rfl,by kernel_rfl,rfl,rfl,rfl⟩ (yGpy NN) (cuts0 (fun _=>rfl) (by kernel_rfl)) Tryz.func70 (by kernel_rfl) (by kernel_rfl)
abbrev ybAy:Type 1:=List UInt8→List UInt8→{R:Type}→(Int→Option R)→Option R
def strings_Compare [Fuel]:ybAy:=@X_cmp
def ybKy (g:ybAy):Spec A:=yjWy g
theorem ycky [Fuel]:Ok 93 (ybKy (@strings_Compare _)):=⟨ywjy (yEUy (Any.strings_Compare Tryz.lays106)),yAly,ybMy (fn:=Tryz.f93) Tryz.func93 (by kernel_rfl) (by kernel_rfl)⟩
abbrev ynhy:Type 1:=G_Contact→G_Contact→{R:Type}→(Int→Option R)→Option R
structure C_z13z where
 N:Nat
 Q_sign:ygiy
 strings_Compare:ybAy
def z13z_ (g:C_z13z) (a1 a2:G_Contact) {R:Type} (k0:Int→Option R):Option R :=
 (bif (a1.f_At != a2.f_At) then (g.Q_sign (w64 (a1.f_At - a2.f_At)) (fun r3=>k0 r3)) else (bif (!(a1.f_Call == a2.f_Call)) then (g.strings_Compare a1.f_Call a2.f_Call (fun r4=>k0 r4)) else (bif (!(a1.f_Band == a2.f_Band)) then (g.strings_Compare a1.f_Band a2.f_Band (fun r5=>k0 r5)) else (g.Q_sign (w64 (a1.f_Mode - a2.f_Mode)) (fun r6=>k0 r6)))))
noncomputable def yyhy [Fuel]:C_z13z:=⟨NN,@Q_sign _,@strings_Compare _⟩
noncomputable def z13z [Fuel]:ynhy:=@z13z_ yyhy
def yh3y (g:ynhy):Spec A:=fun args=>match args with | [.agg [.d (.int .i64 a1),.d (.int .i64 a2),.d (.str a3),.d (.str a4),.d (.int .i64 a5),.d (.int .i64 a6),.d (.str a7),.d (.str a8)],.agg [.d (.int .i64 a9),.d (.int .i64 a10),.d (.str a11),.d (.str a12),.d (.int .i64 a13),.d (.int .i64 a14),.d (.str a15),.d (.str a16)]]=>fun k=>g ⟨a1,a2,a3,a4,a5,a6,a7,a8⟩ ⟨a9,a10,a11,a12,a13,a14,a15,a16⟩ (fun z0=>k (.d (.int .i64 z0)) [.undef,.undef]) | _=>fun _=>none
noncomputable def yLRy:Code:=(Tryz.f44.body).getD .skip
noncomputable def yPAy (g:C_z13z):Env A:=mkE [(70,ydHy g.Q_sign),(93,ybKy g.strings_Compare)] [(2,[0]),(3,[1])] [] [] [] [] [] [] [] []
theorem yNsy (g:C_z13z):Same (yh3y (@z13z_ g)) (abody (yPAy g) Tryz.f44 yLRy 2 [] [.asis] g.N):=by intro args; unfold yh3y; split; exact .inr fun R k=>(by kernel_rfl); exact .inl fun R k=>rfl
theorem ykey [Fuel]:Ok 44 (yh3y (@z13z _)):=yaay std (.cons yi8y (.cons ycky .nil)) ⟨rfl,rfl,by kernel_rfl,rfl,rfl,rfl⟩ (yNsy yyhy) (cuts0 (fun _=>rfl) (by kernel_rfl)) Tryz.func44 (by kernel_rfl) (by kernel_rfl)
end Go.Am
