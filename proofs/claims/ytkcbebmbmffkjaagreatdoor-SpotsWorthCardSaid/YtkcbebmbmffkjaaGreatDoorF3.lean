/- The functions of the program as Lean functions, each shown to be what the code computes, part 3. No condition: lemmas for the claim. -/
import Derived.Test.YtkcbebmbmffkjaaGreatDoorF0
import Derived.Test.YtkcbebmbmffkjaaGreatDoorFSh
import Derived.Test.YtkcbebmbmffkjaaGreatDoorF1
import Derived.Test.YtkcbebmbmffkjaaGreatDoorF2
set_option linter.unusedVariables false
set_option maxRecDepth 100000
namespace Go.Am
open Go Go.Proofs
abbrev T_z6z:Type 1:=List G_Contact→Int→Int→{R:Type}→(List G_Contact→Option R)→Option R
structure C_z6z where
 N:Nat
 z13z:ynhy
def z6z_L4 (g:C_z6z):Nat→Int→Int→Int→Int→List G_Contact→{R:Type}→(Int→Int→Int→List G_Contact→Option R)→Option R
 | 0,_,_,_,_,_,_,_=>none
 | n + 1,v31,v32,v33,v34,v35,_,e0=>(bif (decide (v34 > v31)) then (inr v35 v34 (at_ v35 v34 fun x43=>(inr v35 (w64 (v34 - 1)) (at_ v35 (w64 (v34 - 1)) fun x44=>(g.z13z x43 x44 (fun r45=>(bif (decide (r45 < 0)) then (inr v35 (w64 (v34 - 1)) (at_ v35 (w64 (v34 - 1)) fun x46=>(inr v35 v34 (at_ v35 v34 fun x47=>(inr v35 v34 (at_ v35 v34 fun x48=>(inr (set_ v35 v34 x46) (w64 (v34 - 1)) (at_ (set_ v35 v34 x46) (w64 (v34 - 1)) fun x49=>z6z_L4 g n v31 v32 v33 (w64 (v34 - 1)) (set_ (set_ v35 v34 x46) (w64 (v34 - 1)) x47) e0)))))))) else e0 v31 v32 v33 v35))))))) else e0 v31 v32 v33 v35)
def z6z_L1 (g:C_z6z):Nat→Int→Int→Int→List G_Contact→{R:Type}→(List G_Contact→Option R)→Option R
 | 0,_,_,_,_,_,_=>none
 | n + 1,v4,v5,v6,v7,_,e0=>(bif (decide (v6 < v5)) then (z6z_L4 g g.N v4 v5 v6 v6 v7 (fun e50 e51 e52 e53=>z6z_L1 g n e50 e51 (w64 (e52 + 1)) e53 e0)) else e0 v7)
def z6z_ (g:C_z6z) (a1:List G_Contact) (a2 a3:Int) {R:Type} (k0:List G_Contact→Option R):Option R :=
 (z6z_L1 g g.N a2 a3 (w64 (a2 + 1)) a1 (fun e54=>k0 e54))
noncomputable def I_z6z [Fuel]:C_z6z:=⟨NN,@z13z _⟩
noncomputable def z6z [Fuel]:T_z6z:=@z6z_ I_z6z
def ysky (g:T_z6z):Spec A:=fun args=>match args with | [.arr 77 a1,.d (.int .i64 a2),.d (.int .i64 a3),.fn 44 []]=>fun k=>g a1 a2 a3 (fun z0=>k (.tup []) [.arr 77 z0,.undef,.undef,.fn 44 []]) | _=>fun _=>none
def ynny:SSt:=mkSh 53 1 [(0,.own 77 0),(1,.int .i64),(2,.int .i64),(3,.fn 44 []),(8,.int .i64),(9,.int .i64)] [(0,.row 77)]
def yhsy (g:C_z6z) (n:Nat):LPT A:=fun ps=>match ps with | [.d (.int .i64 p1),.d (.int .i64 p2),.d (.int .i64 p3),.d (.int .i64 p4),.d (.sl 77 p5)]=>fun K=>z6z_L4 g n p1 p2 p3 p4 p5 (fun z0 z1 z2 z3=>K (.exit 2) (mkSt 53 1 [(0,.own 77 0),(1,.d (.int .i64 z0)),(2,.d (.int .i64 z1)),(3,.fn 44 []),(8,.d (.int .i64 z2))] [(0,some (.row 77 z3))])) | _=>fun _=>none
def ynZy:SSt:=mkSh 53 1 [(0,.own 77 0),(1,.int .i64),(2,.int .i64),(3,.fn 44 []),(8,.int .i64)] [(0,.row 77)]
def yg0y (g:C_z6z) (n:Nat):LPT A:=fun ps=>match ps with | [.d (.int .i64 p1),.d (.int .i64 p2),.d (.int .i64 p3),.d (.sl 77 p4)]=>fun K=>z6z_L1 g n p1 p2 p3 p4 (fun z0=>K (.exit 0) (mkSt 53 1 [(0,.own 77 0),(3,.fn 44 [])] [(0,some (.row 77 z0))])) | _=>fun _=>none
noncomputable def yqMy:Code:=(Tryz.f131.body).getD .skip
noncomputable def E_z6z (g:C_z6z):Env A:=mkE [(44,yh3y g.z13z)] [] [(4,⟨[0,1,2,3,8,9],[],[0],[],[],[],[]⟩),(1,⟨[0,1,2,3,8],[],[0],[],[],[],[]⟩)] [(4,⟨[0,1,2,3,8],[],[0],[],[],[],[]⟩),(1,⟨[0,3],[],[0],[],[],[],[]⟩)] [(4,yaey ynny (yhsy g g.N)),(1,yaey ynZy (yg0y g g.N))] [] [] [] [] [0,3]
theorem yGRy [Fuel]:yagy (E_z6z I_z6z).C:=ct_of (P:=Tryz.prog) (T:=T) (.cons ykey .nil) (by kernel_rfl)
noncomputable def yvYy:Code:=sub [1,0,0,1,0,0,1,0,0] yqMy
theorem yIky (g:C_z6z) (n:Nat):yahy (E_z6z g) g.N yvYy ynny (yhsy g) n:=by intro ps; unfold yhsy; split; exact .inr fun R K=>(by kernel_rfl); exact .inl fun R K=>rfl
theorem yuXy [Fuel]:yacy (E_z6z I_z6z) NN yvYy:=yaby ynny (yhsy I_z6z) (by kernel_rfl) yGRy (cuts0 (fun _=>rfl) (by kernel_rfl)) (fun ps R K=>by unfold yhsy; split <;> (try unfold z6z_L4) <;> rfl) (yIky I_z6z)
noncomputable def yvAy:Code:=sub [1,0,0] yqMy
theorem yIPy (g:C_z6z) (n:Nat):yahy (E_z6z g) g.N yvAy ynZy (yg0y g) n:=by intro ps; unfold yg0y; split; exact .inr fun R K=>(by kernel_rfl); exact .inl fun R K=>rfl
theorem yF1y [Fuel]:yacy (E_z6z I_z6z) NN yvAy:=yaby ynZy (yg0y I_z6z) (by kernel_rfl) yGRy (cutsL (fun _=>rfl) (.cons yuXy .nil) (by kernel_rfl)) (fun ps R K=>by unfold yg0y; split <;> (try unfold z6z_L1) <;> rfl) (yIPy I_z6z)
theorem yPIy (g:C_z6z):Same (ysky (@z6z_ g)) (abody (E_z6z g) Tryz.f131 yqMy 1 [0] [] g.N):=by intro args; unfold ysky; split; exact .inr fun R k=>(by kernel_rfl); exact .inl fun R k=>rfl
theorem yGyy [Fuel]:Ok 131 (ysky (@z6z _)):=yaay std (.cons ykey .nil) ⟨rfl,rfl,by kernel_rfl,rfl,rfl,rfl⟩ (yPIy I_z6z) (cutsL (fun _=>rfl) (.cons yuXy (.cons yF1y .nil)) (by kernel_rfl)) Tryz.func131 (by kernel_rfl) (by kernel_rfl)
abbrev T_z5z:Type 1:=List G_Contact→Int→{R:Type}→(List G_Contact→Option R)→Option R
structure C_z5z where
 N:Nat
 z6z:T_z6z
def z5z_L2 (g:C_z5z):Nat→Int→Int→Int→Int→List G_Contact→{R:Type}→(Int→Int→Int→List G_Contact→Option R)→Option R
 | 0,_,_,_,_,_,_,_=>none
 | n + 1,v3,v4,v5,v6,v7,_,e0=>(bif (decide (v6≤v3)) then (g.z6z v7 v5 v6 (fun r9=>z5z_L2 g n v3 v4 v6 (w64 (v6 + v4)) r9 e0)) else e0 v3 v4 v5 v7)
def z5z_L9 (g:C_z5z):Nat→Int→Int→Int→Int→List G_Contact→{R:Type}→(Int→Int→Int→List G_Contact→Option R)→Option R
 | 0,_,_,_,_,_,_,_=>none
 | n + 1,v27,v28,v29,v30,v31,_,e0=>(bif (decide (v30≤v27)) then none else e0 v27 v28 v29 v31)
def z5z_L7 (g:C_z5z):Nat→Int→Int→List G_Contact→{R:Type}→(List G_Contact→Option R)→Option R
 | 0,_,_,_,_,_=>none
 | n + 1,v15,v16,v17,_,e0=>(bif (decide (v16 < v15)) then (z5z_L9 g g.N v15 v16 0 (w64 (2 * v16)) v17 (fun e32 e33 e34 e35=>(bif (decide ((w64 (e34 + e33)) < e32)) then none else z5z_L7 g n e32 (w64 (e33 * 2)) e35 e0))) else e0 v17)
def z5z_ (g:C_z5z) (a1:List G_Contact) (a2:Int) {R:Type} (k0:List G_Contact→Option R):Option R :=
 (z5z_L2 g g.N a2 20 0 20 a1 (fun e10 e11 e12 e13=>(g.z6z e13 e12 e10 (fun r14=>(z5z_L7 g g.N e10 e11 r14 (fun e36=>k0 e36))))))
noncomputable def I_z5z [Fuel]:C_z5z:=⟨NN,@z6z _⟩
noncomputable def z5z [Fuel]:T_z5z:=@z5z_ I_z5z
def yrOy (g:T_z5z):Spec A:=fun args=>match args with | [.arr 77 a1,.d (.int .i64 a2),.fn 44 []]=>fun k=>g a1 a2 (fun z0=>k (.tup []) [.arr 77 z0,.undef,.fn 44 []]) | _=>fun _=>none
def ynXy:SSt:=mkSh 63 1 [(0,.own 77 0),(1,.int .i64),(2,.fn 44 []),(6,.int .i64),(7,.int .i64),(8,.int .i64)] [(0,.row 77)]
def ygWy (g:C_z5z) (n:Nat):LPT A:=fun ps=>match ps with | [.d (.int .i64 p1),.d (.int .i64 p2),.d (.int .i64 p3),.d (.int .i64 p4),.d (.sl 77 p5)]=>fun K=>z5z_L2 g n p1 p2 p3 p4 p5 (fun z0 z1 z2 z3=>K (.exit 0) (mkSt 63 1 [(0,.own 77 0),(1,.d (.int .i64 z0)),(2,.fn 44 []),(6,.d (.int .i64 z1)),(7,.d (.int .i64 z2))] [(0,some (.row 77 z3))])) | _=>fun _=>none
def ymUy:SSt:=mkSh 63 1 [(0,.own 77 0),(1,.int .i64),(2,.fn 44 []),(6,.int .i64),(7,.int .i64),(8,.int .i64)] [(0,.row 77)]
def yhdy (g:C_z5z) (n:Nat):LPT A:=fun ps=>match ps with | [.d (.int .i64 p1),.d (.int .i64 p2),.d (.int .i64 p3),.d (.int .i64 p4),.d (.sl 77 p5)]=>fun K=>z5z_L9 g n p1 p2 p3 p4 p5 (fun z0 z1 z2 z3=>K (.exit 4) (mkSt 63 1 [(0,.own 77 0),(1,.d (.int .i64 z0)),(2,.fn 44 []),(6,.d (.int .i64 z1)),(7,.d (.int .i64 z2))] [(0,some (.row 77 z3))])) | _=>fun _=>none
def ynIy:SSt:=mkSh 63 1 [(0,.own 77 0),(1,.int .i64),(2,.fn 44 []),(6,.int .i64)] [(0,.row 77)]
def ygYy (g:C_z5z) (n:Nat):LPT A:=fun ps=>match ps with | [.d (.int .i64 p1),.d (.int .i64 p2),.d (.sl 77 p3)]=>fun K=>z5z_L7 g n p1 p2 p3 (fun z0=>K (.exit 2) (mkSt 63 1 [(0,.own 77 0),(2,.fn 44 [])] [(0,some (.row 77 z0))])) | _=>fun _=>none
noncomputable def ypRy:Code:=(Tryz.f92.body).getD .skip
noncomputable def E_z5z (g:C_z5z):Env A:=mkE [(131,ysky g.z6z)] [] [(2,⟨[0,1,2,6,7,8],[],[0],[],[],[],[]⟩),(9,⟨[0,1,2,6,7,8],[],[0],[],[],[],[]⟩),(7,⟨[0,1,2,6],[],[0],[],[],[],[]⟩)] [(2,⟨[0,1,2,6,7],[],[0],[],[],[],[]⟩),(9,⟨[0,1,2,6,7],[],[0],[],[],[],[]⟩),(7,⟨[0,2],[],[0],[],[],[],[]⟩)] [(2,yaey ynXy (ygWy g g.N)),(9,yaey ymUy (yhdy g g.N)),(7,yaey ynIy (ygYy g g.N))] [] [] [] [(131,0)] [0,2]
theorem yyMy [Fuel]:yagy (E_z5z I_z5z).C:=ct_of (P:=Tryz.prog) (T:=T) (.cons yGyy .nil) (by kernel_rfl)
noncomputable def yvcy:Code:=sub [1,1,0,0,0] ypRy
theorem yHjy (g:C_z5z) (n:Nat):yahy (E_z5z g) g.N yvcy ynXy (ygWy g) n:=by intro ps; unfold ygWy; split; exact .inr fun R K=>(by kernel_rfl); exact .inl fun R K=>rfl
theorem yGqy [Fuel]:yacy (E_z5z I_z5z) NN yvcy:=yaby ynXy (ygWy I_z5z) (by kernel_rfl) yyMy (cuts0 (fun _=>rfl) (by kernel_rfl)) (fun ps R K=>by unfold ygWy; split <;> (try unfold z5z_L2) <;> rfl) (yHjy I_z5z)
noncomputable def yvBy:Code:=sub [1,1,1,1,0,0,1,0,1,0,0,0] ypRy
theorem yIDy (g:C_z5z) (n:Nat):yahy (E_z5z g) g.N yvBy ymUy (yhdy g) n:=by intro ps; unfold yhdy; split; exact .inr fun R K=>(by kernel_rfl); exact .inl fun R K=>rfl
theorem yvvy [Fuel]:yacy (E_z5z I_z5z) NN yvBy:=yaby ymUy (yhdy I_z5z) (by kernel_rfl) yyMy (cuts0 (fun _=>rfl) (by kernel_rfl)) (fun ps R K=>by unfold yhdy; split <;> (try unfold z5z_L9) <;> rfl) (yIDy I_z5z)
noncomputable def yvHy:Code:=sub [1,1,1,1,0,0] ypRy
theorem yIvy (g:C_z5z) (n:Nat):yahy (E_z5z g) g.N yvHy ynIy (ygYy g) n:=by intro ps; unfold ygYy; split; exact .inr fun R K=>(by kernel_rfl); exact .inl fun R K=>rfl
theorem yE5y [Fuel]:yacy (E_z5z I_z5z) NN yvHy:=yaby ynIy (ygYy I_z5z) (by kernel_rfl) yyMy (cutsL (fun _=>rfl) (.cons yvvy .nil) (by kernel_rfl)) (fun ps R K=>by unfold ygYy; split <;> (try unfold z5z_L7) <;> rfl) (yIvy I_z5z)
theorem yPKy (g:C_z5z):Same (yrOy (@z5z_ g)) (abody (E_z5z g) Tryz.f92 ypRy 1 [0] [] g.N):=by intro args; unfold yrOy; split; exact .inr fun R k=>(by kernel_rfl); exact .inl fun R k=>rfl
theorem yPsy [Fuel]:Ok 92 (yrOy (@z5z _)):=yaay std (.cons yGyy .nil) ⟨rfl,rfl,by kernel_rfl,rfl,rfl,rfl⟩ (yPKy I_z5z) (cutsL (fun _=>rfl) (.cons yGqy (.cons yvvy (.cons yE5y .nil))) (by kernel_rfl)) Tryz.func92 (by kernel_rfl) (by kernel_rfl)
abbrev ywLy:Type 1:=List G_Contact→{R:Type}→(List G_Contact→Option R)→Option R
structure C_z43z where
 N:Nat
 z5z:T_z5z
def z43z_ (g:C_z43z) (a1:List G_Contact) {R:Type} (k0:List G_Contact→Option R):Option R :=
 (g.z5z a1 (a1.length:Int) (fun r2=>k0 r2))
noncomputable def yyHy [Fuel]:C_z43z:=⟨NN,@z5z _⟩
noncomputable def z43z [Fuel]:ywLy:=@z43z_ yyHy
def yoDy (g:ywLy):Spec A:=fun args=>match args with | [.arr 77 a1,.fn 44 []]=>fun k=>g a1 (fun z0=>k (.tup []) [.arr 77 z0,.fn 44 []]) | _=>fun _=>none
noncomputable def yNdy:Code:=(Tryz.f43.body).getD .skip
noncomputable def yOGy (g:C_z43z):Env A:=mkE [(92,yrOy g.z5z)] [] [] [] [] [] [] [] [(92,0)] [0,1]
theorem yKiy (g:C_z43z):Same (yoDy (@z43z_ g)) (abody (yOGy g) Tryz.f43 yNdy 1 [0] [] g.N):=by intro args; unfold yoDy; split; exact .inr fun R k=>(by kernel_rfl); exact .inl fun R k=>rfl
theorem yCOy [Fuel]:Ok 43 (yoDy (@z43z _)):=yaay std (.cons yPsy .nil) ⟨rfl,rfl,by kernel_rfl,rfl,rfl,rfl⟩ (yKiy yyHy) (cuts0 (fun _=>rfl) (by kernel_rfl)) Tryz.func43 (by kernel_rfl) (by kernel_rfl)
abbrev yzjy:Type 1:=G_Contact→G_Contact→{R:Type}→(Bool→Option R)→Option R
structure C_z28z where
 N:Nat
 z13z:ynhy
def z28z_ (g:C_z28z) (a1 a2:G_Contact) {R:Type} (k0:Bool→Option R):Option R :=
 (g.z13z a1 a2 (fun r3=>k0 (r3 == 0)))
noncomputable def ywRy [Fuel]:C_z28z:=⟨NN,@z13z _⟩
noncomputable def z28z [Fuel]:yzjy:=@z28z_ ywRy
def yoqy (g:yzjy):Spec A:=fun args=>match args with | [.agg [.d (.int .i64 a1),.d (.int .i64 a2),.d (.str a3),.d (.str a4),.d (.int .i64 a5),.d (.int .i64 a6),.d (.str a7),.d (.str a8)],.agg [.d (.int .i64 a9),.d (.int .i64 a10),.d (.str a11),.d (.str a12),.d (.int .i64 a13),.d (.int .i64 a14),.d (.str a15),.d (.str a16)]]=>fun k=>g ⟨a1,a2,a3,a4,a5,a6,a7,a8⟩ ⟨a9,a10,a11,a12,a13,a14,a15,a16⟩ (fun z0=>k (.d (.bool z0)) [.undef,.undef]) | _=>fun _=>none
noncomputable def yLfy:Code:=(Tryz.f46.body).getD .skip
noncomputable def yPYy (g:C_z28z):Env A:=mkE [(44,yh3y g.z13z)] [(2,[0]),(3,[1])] [] [] [] [] [] [] [] []
theorem yN9y (g:C_z28z):Same (yoqy (@z28z_ g)) (abody (yPYy g) Tryz.f46 yLfy 2 [] [.asis] g.N):=by intro args; unfold yoqy; split; exact .inr fun R k=>(by kernel_rfl); exact .inl fun R k=>rfl
theorem yCay [Fuel]:Ok 46 (yoqy (@z28z _)):=yaay std (.cons ykey .nil) ⟨rfl,rfl,by kernel_rfl,rfl,rfl,rfl⟩ (yN9y ywRy) (cuts0 (fun _=>rfl) (by kernel_rfl)) Tryz.func46 (by kernel_rfl) (by kernel_rfl)
abbrev yxay:Type 1:=List G_Contact→{R:Type}→(List G_Contact→Option R)→Option R
structure C_z12z where
 N:Nat
 z28z:yzjy
def z12z_L9 (g:C_z12z):Nat→Int→Int→Int→Int→List G_Contact→{R:Type}→(Int→List G_Contact→Option R)→Option R
 | 0,_,_,_,_,_,_,_=>none
 | n + 1,v27,v28,v29,v30,v31,_,e0=>(bif (decide (v30 < ((v29 - v28).toNat:Int))) then (bif (decide (0≤v30) && (decide (v30 < v29 - v28) && decide (v28 + v30 < (v31.length:Int)))) then (at_ v31 (v28 + v30) fun x37=>(bif (decide (0≤(w64 (v30 - 1))) && (decide ((w64 (v30 - 1)) < v29 - v28) && decide (v28 + (w64 (v30 - 1)) < (v31.length:Int)))) then (at_ v31 (v28 + (w64 (v30 - 1))) fun x38=>(g.z28z x37 x38 (fun r39=>(bif (!r39) then (bif (decide (0≤v30) && (decide (v30 < v29 - v28) && decide (v28 + v30 < (v31.length:Int)))) then (at_ v31 (v28 + v30) fun x40=>(inr v31 v27 (at_ v31 v27 fun x41=>z12z_L9 g n (w64 (v27 + 1)) v28 v29 (w64 (v30 + 1)) (set_ v31 v27 x40) e0))) else none) else z12z_L9 g n v27 v28 v29 (w64 (v30 + 1)) v31 e0)))) else none)) else none) else e0 v27 v31)
def z12z_L4 (g:C_z12z):Nat→Int→List G_Contact→{R:Type}→(List G_Contact→Option R)→(List G_Contact→Option R)→Option R
 | 0,_,_,_,_,_=>none
 | n + 1,v2,v3,_,e0,e1=>(bif (decide (v2 < (v3.length:Int))) then (inr v3 v2 (at_ v3 v2 fun x24=>(inr v3 (w64 (v2 - 1)) (at_ v3 (w64 (v2 - 1)) fun x25=>(g.z28z x24 x25 (fun r26=>(bif r26 then (bif (decide (0 < v3.length) && (decide (0≤v2) && decide (v2≤(v3.length:Int)))) then (z12z_L9 g g.N v2 v2 (v3.length:Int) 1 v3 (fun e42 e43=>(bif (decide (0 < e43.length) && (decide (0≤e42) && decide (e42≤(e43.length:Int)))) then (bif (decide (0≤e42) && (decide (e42≤(e43.length:Int)) && decide (((e43.length:Int)).toNat≤e43.length))) then (bif (decide (0≤e42) && decide (e42≤((e43.take (e42).toNat ++ (List.replicate ((e43.length:Int) - e42).toNat (⟨0,0,[],[],0,0,[],[]⟩:G_Contact) ++ e43.drop ((e43.length:Int)).toNat)).length:Int))) then e0 ((e43.take (e42).toNat ++ (List.replicate ((e43.length:Int) - e42).toNat (⟨0,0,[],[],0,0,[],[]⟩:G_Contact) ++ e43.drop ((e43.length:Int)).toNat)).take (e42:Int).toNat) else none) else none) else none))) else none) else z12z_L4 g n (w64 (v2 + 1)) v3 e0 e1))))))) else e1 v3)
def z12z_ (g:C_z12z) (a1:List G_Contact) {R:Type} (k0:List G_Contact→Option R):Option R :=
 (bif (decide ((a1.length:Int) < 2)) then k0 a1 else (z12z_L4 g g.N 1 a1 (fun e44=>k0 e44) (fun e45=>k0 e45)))
noncomputable def yecy [Fuel]:C_z12z:=⟨NN,@z28z _⟩
noncomputable def z12z [Fuel]:yxay:=@z12z_ yecy
def yooy (g:yxay):Spec A:=fun args=>match args with | [.arr 77 a1,.fn 46 []]=>fun k=>g a1 (fun z0=>k (.arr 77 z0) [.undef,.fn 46 []]) | _=>fun _=>none
def ylly:SSt:=mkSh 66 6 [(0,.own 77 0),(1,.fn 46 []),(5,.int .i64),(6,.vw 77 0),(7,.int .i64)] [(0,.row 77)]
def yePy (g:C_z12z) (n:Nat):LPT A:=fun ps=>match ps with | [.d (.int .i64 p1),.z p2,.z p3,.d (.int .i64 p4),.d (.sl 77 p5)]=>fun K=>z12z_L9 g n p1 p2 p3 p4 p5 (fun z0 z1=>K (.exit 2) (mkSt 66 6 [(0,.own 77 0),(1,.fn 46 []),(5,.d (.int .i64 z0))] [(0,some (.row 77 z1))])) | _=>fun _=>none
def ykOy:SSt:=mkSh 66 6 [(0,.own 77 0),(1,.fn 46 []),(5,.int .i64)] [(0,.row 77)]
def yf5y (g:C_z12z) (n:Nat):LPT A:=fun ps=>match ps with | [.d (.int .i64 p1),.d (.sl 77 p2)]=>fun K=>z12z_L4 g n p1 p2 (fun z0=>K .ret (mkSt 66 6 [(0,.own 77 0),(1,.fn 46 []),(4,.own 77 5)] [(5,some (.row 77 z0))])) (fun z0=>K (.exit 0) (mkSt 66 6 [(0,.own 77 0),(1,.fn 46 [])] [(0,some (.row 77 z0))])) | _=>fun _=>none
noncomputable def yt5y:Code:=(Tryz.f45.body).getD .skip
noncomputable def ykly (g:C_z12z):Env A:=mkE [(46,yoqy g.z28z)] [(31,[1,2]),(61,[3,4]),(64,[5])] [(9,⟨[0,1,5,6,7],[],[0],[],[],[],[]⟩),(4,⟨[0,1,5],[],[0],[],[],[],[]⟩)] [(9,⟨[0,1,5],[],[0],[],[],[],[]⟩),(4,⟨[0,1,4],[],[0,5],[],[],[],[]⟩)] [(9,yaey ylly (yePy g g.N)),(4,yaey ykOy (yf5y g g.N))] [] [] [] [] [1]
theorem yCfy [Fuel]:yagy (ykly yecy).C:=ct_of (P:=Tryz.prog) (T:=T) (.cons yCay .nil) (by kernel_rfl)
noncomputable def yscy:Code:=sub [1,1,0,1,0,0,1,0,0,1,0,1,0,1,0,0] yt5y
theorem yGHy (g:C_z12z) (n:Nat):yahy (ykly g) g.N yscy ylly (yePy g) n:=by intro ps; unfold yePy; split; exact .inr fun R K=>(by kernel_rfl); exact .inl fun R K=>rfl
theorem ys2y [Fuel]:yacy (ykly yecy) NN yscy:=yaby ylly (yePy yecy) (by kernel_rfl) yCfy (cuts0 (fun _=>rfl) (by kernel_rfl)) (fun ps R K=>by unfold yePy; split <;> (try unfold z12z_L9) <;> rfl) (yGHy yecy)
noncomputable def ytfy:Code:=sub [1,1,0,1,0,0] yt5y
theorem yE9y (g:C_z12z) (n:Nat):yahy (ykly g) g.N ytfy ykOy (yf5y g) n:=by intro ps; unfold yf5y; split; exact .inr fun R K=>(by kernel_rfl); exact .inl fun R K=>rfl
theorem yDyy [Fuel]:yacy (ykly yecy) NN ytfy:=yaby ykOy (yf5y yecy) (by kernel_rfl) yCfy (cutsL (fun _=>rfl) (.cons ys2y .nil) (by kernel_rfl)) (fun ps R K=>by unfold yf5y; split <;> (try unfold z12z_L4) <;> rfl) (yE9y yecy)
theorem yNYy (g:C_z12z):Same (yooy (@z12z_ g)) (abody (ykly g) Tryz.f45 yt5y 6 [0] [.arr 77] g.N):=by intro args; unfold yooy; split; exact .inr fun R k=>(by kernel_rfl); exact .inl fun R k=>rfl
theorem yByy [Fuel]:Ok 45 (yooy (@z12z _)):=yaay std (.cons yCay .nil) ⟨rfl,rfl,by kernel_rfl,rfl,rfl,rfl⟩ (yNYy yecy) (cutsL (fun _=>rfl) (.cons ys2y (.cons yDyy .nil)) (by kernel_rfl)) Tryz.func45 (by kernel_rfl) (by kernel_rfl)
abbrev yz0y:Type 1:=G_Stream→Int→{R:Type}→(List G_Contact→G_Stream→Option R)→Option R
structure C_z21z where
 N:Nat
 z65z:ye5y
 z89z:yw6y
 z43z:ywLy
 z12z:yxay
def z21z_L4 (g:C_z21z):Nat→Int→Int→Int→G_Stream→List G_Contact→{R:Type}→(G_Stream→List G_Contact→Option R)→Option R
 | 0,_,_,_,_,_,_,_=>none
 | n + 1,v3,v4,v5,v6,v7,_,e0=>(bif (decide (v5 < v4)) then (g.z65z v6 [0,1,10,50,1000,40000,1500000] (fun r12 r13=>(g.z89z r13 (w64 (v3 + r12)) (fun r14 r15=>(bif (decide ((v7.length + [r14].length) * 96≤yazy)) then z21z_L4 g n (w64 (v3 + r12)) v4 (w64 (v5 + 1)) r15 (v7 ++ [r14]) e0 else none))))) else e0 v6 v7)
def z21z_ (g:C_z21z) (a1:G_Stream) (a2:Int) {R:Type} (k0:List G_Contact→G_Stream→Option R):Option R :=
 (z21z_L4 g g.N 0 a2 0 a1 [] (fun e16 e17=>(g.z43z e17 (fun r18=>(g.z12z r18 (fun r19=>k0 r19 e16))))))
noncomputable def ydyy [Fuel]:C_z21z:=⟨NN,@z65z _,@z89z _,@z43z _,@z12z _⟩
noncomputable def z21z [Fuel]:yz0y:=@z21z_ ydyy
def ypty (g:yz0y):Spec A:=fun args=>match args with | [.box [.d (.sl 3 a1),.d (.int .i64 a2)],.d (.int .i64 a3)]=>fun k=>g ⟨a1,a2⟩ a3 (fun z0 z1=>k (.arr 77 z0) [.box [.d (.sl 3 z1.f_L),.d (.int .i64 z1.f_at)],.undef]) | _=>fun _=>none
def yliy:SSt:=mkSh 26 6 [(0,.ptr 0 0),(5,.own 77 1),(6,.int .i64),(7,.int .i64),(8,.int .i64)] [(0,.box [.sl 3,.int .i64]),(1,.row 77)]
def yfJy (g:C_z21z) (n:Nat):LPT A:=fun ps=>match ps with | [.d (.int .i64 p1),.d (.int .i64 p2),.d (.int .i64 p3),.d (.sl 3 p4),.d (.int .i64 p5),.d (.sl 77 p6)]=>fun K=>z21z_L4 g n p1 p2 p3 ⟨p4,p5⟩ p6 (fun z0 z1=>K (.exit 0) (mkSt 26 6 [(0,.ptr 0 0),(5,.own 77 1)] [(0,some (.box [.d (.sl 3 z0.f_L),.d (.int .i64 z0.f_at)])),(1,some (.row 77 z1))])) | _=>fun _=>none
noncomputable def yGTy:Code:=(Tryz.f8.body).getD .skip
noncomputable def ytGy (g:C_z21z):Env A:=mkE [(9,ydmy g.z65z),(42,yo7y g.z89z),(43,yoDy g.z43z),(45,yooy g.z12z)] [(12,[2]),(19,[3]),(20,[4]),(25,[5])] [(4,⟨[0,5,6,7,8],[(5,77,1)],[0],[],[],[],[]⟩)] [(4,⟨[0,5],[],[0,1],[],[],[],[]⟩)] [(4,yaey yliy (yfJy g g.N))] [] [] [] [(43,0),(45,0)] [0]
theorem yNUy [Fuel]:yagy (ytGy ydyy).C:=ct_of (P:=Tryz.prog) (T:=T) (.cons ydRy (.cons yC2y (.cons yCOy (.cons yByy .nil)))) (by kernel_rfl)
noncomputable def ysny:Code:=sub [1,1,1,0,1,0,0] yGTy
theorem yFLy (g:C_z21z) (n:Nat):yahy (ytGy g) g.N ysny yliy (yfJy g) n:=by intro ps; unfold yfJy; split; exact .inr fun R K=>(by kernel_rfl); exact .inl fun R K=>rfl
theorem yD7y [Fuel]:yacy (ytGy ydyy) NN ysny:=yaby yliy (yfJy ydyy) (by kernel_rfl) yNUy (cuts0 (fun _=>rfl) (by kernel_rfl)) (fun ps R K=>by unfold yfJy; split <;> (try unfold z21z_L4) <;> rfl) (yFLy ydyy)
theorem yNxy (g:C_z21z):Same (ypty (@z21z_ g)) (abody (ytGy g) Tryz.f8 yGTy 6 [0] [.arr 77] g.N):=by intro args; unfold ypty; split; exact .inr fun R k=>(by kernel_rfl); exact .inl fun R k=>rfl
theorem yKby [Fuel]:Ok 8 (ypty (@z21z _)):=yaay std (.cons ydRy (.cons yC2y (.cons yCOy (.cons yByy .nil)))) ⟨rfl,rfl,by kernel_rfl,rfl,rfl,rfl⟩ (yNxy ydyy) (cutsL (fun _=>rfl) (.cons yD7y .nil) (by kernel_rfl)) Tryz.func8 (by kernel_rfl) (by kernel_rfl)
abbrev yuuy:Type 1:=G_Stream→{R:Type}→(Int→G_Stream→Option R)→Option R
structure C_z103z where
 N:Nat
 z65z:ye5y
 z76z:yfry
 Stream_Odd:ycEy
def z103z_ (g:C_z103z) (a1:G_Stream) {R:Type} (k0:Int→G_Stream→Option R):Option R :=
 (g.z76z a1 15 (fun r2 r3=>(bif r2 then (g.Stream_Odd r3 0 30000000000 (fun r4 r5=>k0 r4 r5)) else (g.z65z r3 [0,1799999,1800000,7000000,7299999,7300000,14025000,14349999,14350000,30000000000] (fun r6 r7=>k0 r6 r7)))))
noncomputable def ypQy [Fuel]:C_z103z:=⟨NN,@z65z _,@z76z _,@Stream_Odd _⟩
noncomputable def z103z [Fuel]:yuuy:=@z103z_ ypQy
def ylEy (g:yuuy):Spec A:=fun args=>match args with | [.box [.d (.sl 3 a1),.d (.int .i64 a2)]]=>fun k=>g ⟨a1,a2⟩ (fun z0 z1=>k (.d (.int .i64 z0)) [.box [.d (.sl 3 z1.f_L),.d (.int .i64 z1.f_at)]]) | _=>fun _=>none
noncomputable def yJJy:Code:=(Tryz.f10.body).getD .skip
noncomputable def yLgy (g:C_z103z):Env A:=mkE [(9,ydmy g.z65z),(34,ydky g.z76z),(37,ybTy g.Stream_Odd)] [(8,[1])] [] [] [] [] [] [] [] [0]
theorem yIly (g:C_z103z):Same (ylEy (@z103z_ g)) (abody (yLgy g) Tryz.f10 yJJy 2 [0] [.asis] g.N):=by intro args; unfold ylEy; split; exact .inr fun R k=>(by kernel_rfl); exact .inl fun R k=>rfl
theorem yJmy [Fuel]:Ok 10 (ylEy (@z103z _)):=yaay std (.cons ydRy (.cons ydPy (.cons ydby .nil))) ⟨rfl,rfl,by kernel_rfl,rfl,rfl,rfl⟩ (yIly ypQy) (cuts0 (fun _=>rfl) (by kernel_rfl)) Tryz.func10 (by kernel_rfl) (by kernel_rfl)
abbrev ycay:Type 1:=List UInt8→Int→{R:Type}→(Int→Option R)→Option R
def strings_IndexByte [Fuel]:ycay:=@X_ixb
def yc2y (g:ycay):Spec A:=ykty g
theorem ycYy [Fuel]:Ok 143 (yc2y (@strings_IndexByte _)):=⟨ywsy (yF0y (Any.strings_IndexByte Tryz.lays137)),yA7y,ybMy (fn:=Tryz.f143) Tryz.func143 (by kernel_rfl) (by kernel_rfl)⟩
abbrev ydQy:Type 1:=List UInt8→List UInt8→{R:Type}→(List UInt8→Option R)→Option R
def strings_Trim [Fuel]:ydQy:=@yr0y
def yfQy (g:ydQy):Spec A:=yiGy g
theorem yiZy [Fuel]:Ok 151 (yfQy (@strings_Trim _)):=⟨yt8y (yDgy rfl (fun s cs w h1 h2 h3=>Any.strings_Trim_laid Tryz.lays160 (by kernel_rfl) s cs w h1 h2 h3)),ywZy,ybMy (fn:=Tryz.f151) Tryz.func151 (by kernel_rfl) (by kernel_rfl)⟩
end Go.Am
