/- The functions of the program as Lean functions, each shown to be what the code computes, part 2. No condition: lemmas for the claim. -/
import Derived.Test.YtnlblmnoiepeaaaGreatDoorF0
import Derived.Test.YtnlblmnoiepeaaaGreatDoorFSh
import Derived.Test.YtnlblmnoiepeaaaGreatDoorF1
set_option linter.unusedVariables false
set_option maxRecDepth 100000
namespace Go.Am
open Go Go.Proofs
abbrev T_z8z:Type 1:=List G_Spot→Int→Int→{R:Type}→(List G_Spot→Option R)→Option R
structure C_z8z where
 N:Nat
 z10z:yr3y
def z8z_L4 (g:C_z8z):Nat→Int→Int→Int→Int→List G_Spot→{R:Type}→(Int→Int→Int→List G_Spot→Option R)→Option R
 | 0,_,_,_,_,_,_,_=>none
 | n + 1,v31,v32,v33,v34,v35,_,e0=>(bif (decide (v34 > v31)) then (inr v35 v34 (at_ v35 v34 fun x43=>(inr v35 (w64 (v34 - 1)) (at_ v35 (w64 (v34 - 1)) fun x44=>(g.z10z x43 x44 (fun r45=>(bif (decide (r45 < 0)) then (inr v35 (w64 (v34 - 1)) (at_ v35 (w64 (v34 - 1)) fun x46=>(inr v35 v34 (at_ v35 v34 fun x47=>(inr v35 v34 (at_ v35 v34 fun x48=>(inr (set_ v35 v34 x46) (w64 (v34 - 1)) (at_ (set_ v35 v34 x46) (w64 (v34 - 1)) fun x49=>z8z_L4 g n v31 v32 v33 (w64 (v34 - 1)) (set_ (set_ v35 v34 x46) (w64 (v34 - 1)) x47) e0)))))))) else e0 v31 v32 v33 v35))))))) else e0 v31 v32 v33 v35)
def z8z_L1 (g:C_z8z):Nat→Int→Int→Int→List G_Spot→{R:Type}→(List G_Spot→Option R)→Option R
 | 0,_,_,_,_,_,_=>none
 | n + 1,v4,v5,v6,v7,_,e0=>(bif (decide (v6 < v5)) then (z8z_L4 g g.N v4 v5 v6 v6 v7 (fun e50 e51 e52 e53=>z8z_L1 g n e50 e51 (w64 (e52 + 1)) e53 e0)) else e0 v7)
def z8z_ (g:C_z8z) (a1:List G_Spot) (a2 a3:Int) {R:Type} (k0:List G_Spot→Option R):Option R :=
 (z8z_L1 g g.N a2 a3 (w64 (a2 + 1)) a1 (fun e54=>k0 e54))
noncomputable def I_z8z [Fuel]:C_z8z:=⟨NN,@z10z _⟩
noncomputable def z8z [Fuel]:T_z8z:=@z8z_ I_z8z
def yrzy (g:T_z8z):Spec A:=fun args=>match args with | [.arr 42 a1,.d (.int .i64 a2),.d (.int .i64 a3),.fn 59 []]=>fun k=>g a1 a2 a3 (fun z0=>k (.tup []) [.arr 42 z0,.undef,.undef,.fn 59 []]) | _=>fun _=>none
def ymyy:SSt:=mkSh 53 1 [(0,.own 42 0),(1,.int .i64),(2,.int .i64),(3,.fn 59 []),(8,.int .i64),(9,.int .i64)] [(0,.row 42)]
def ygUy (g:C_z8z) (n:Nat):LPT A:=fun ps=>match ps with | [.d (.int .i64 p1),.d (.int .i64 p2),.d (.int .i64 p3),.d (.int .i64 p4),.d (.sl 42 p5)]=>fun K=>z8z_L4 g n p1 p2 p3 p4 p5 (fun z0 z1 z2 z3=>K (.exit 2) (mkSt 53 1 [(0,.own 42 0),(1,.d (.int .i64 z0)),(2,.d (.int .i64 z1)),(3,.fn 59 []),(8,.d (.int .i64 z2))] [(0,some (.row 42 z3))])) | _=>fun _=>none
def ynoy:SSt:=mkSh 53 1 [(0,.own 42 0),(1,.int .i64),(2,.int .i64),(3,.fn 59 []),(8,.int .i64)] [(0,.row 42)]
def yg4y (g:C_z8z) (n:Nat):LPT A:=fun ps=>match ps with | [.d (.int .i64 p1),.d (.int .i64 p2),.d (.int .i64 p3),.d (.sl 42 p4)]=>fun K=>z8z_L1 g n p1 p2 p3 p4 (fun z0=>K (.exit 0) (mkSt 53 1 [(0,.own 42 0),(3,.fn 59 [])] [(0,some (.row 42 z0))])) | _=>fun _=>none
noncomputable def ycXy:Code:=(Tryz.f128.body).getD .skip
noncomputable def E_z8z (g:C_z8z):Env A:=mkE [(59,ykcy g.z10z)] [] [(4,⟨[0,1,2,3,8,9],[],[0],[],[],[],[]⟩),(1,⟨[0,1,2,3,8],[],[0],[],[],[],[]⟩)] [(4,⟨[0,1,2,3,8],[],[0],[],[],[],[]⟩),(1,⟨[0,3],[],[0],[],[],[],[]⟩)] [(4,yafy ymyy (ygUy g g.N)),(1,yafy ynoy (yg4y g g.N))] [] [] [] [] [0,3]
theorem yEYy [Fuel]:yahy (E_z8z I_z8z).C:=ct_of (P:=Tryz.prog) (T:=T) (.cons yoVy .nil) (by kernel_rfl)
noncomputable def yt8y:Code:=sub [1,0,0,1,0,0,1,0,0] ycXy
theorem yIay (g:C_z8z) (n:Nat):yaky (E_z8z g) g.N yt8y ymyy (ygUy g) n:=by intro ps; unfold ygUy; split; exact .inr fun R K=>(by kernel_rfl); exact .inl fun R K=>rfl
theorem yuCy [Fuel]:yacy (E_z8z I_z8z) NN yt8y:=yaey ymyy (ygUy I_z8z) (by kernel_rfl) yEYy (cuts0 (fun _=>rfl) (by kernel_rfl)) (fun ps R K=>by unfold ygUy; split <;> (try unfold z8z_L4) <;> rfl) (yIay I_z8z)
noncomputable def yuvy:Code:=sub [1,0,0] ycXy
theorem yIly (g:C_z8z) (n:Nat):yaky (E_z8z g) g.N yuvy ynoy (yg4y g) n:=by intro ps; unfold yg4y; split; exact .inr fun R K=>(by kernel_rfl); exact .inl fun R K=>rfl
theorem yEWy [Fuel]:yacy (E_z8z I_z8z) NN yuvy:=yaey ynoy (yg4y I_z8z) (by kernel_rfl) yEYy (cutsL (fun _=>rfl) (.cons yuCy .nil) (by kernel_rfl)) (fun ps R K=>by unfold yg4y; split <;> (try unfold z8z_L1) <;> rfl) (yIly I_z8z)
theorem yOey (g:C_z8z):Same (yrzy (@z8z_ g)) (abody (E_z8z g) Tryz.f128 ycXy 1 [0] [] g.N):=by intro args; unfold yrzy; split; exact .inr fun R k=>(by kernel_rfl); exact .inl fun R k=>rfl
theorem yFQy [Fuel]:Ok 128 (yrzy (@z8z _)):=yaay std (.cons yoVy .nil) ⟨rfl,rfl,by kernel_rfl,rfl,rfl,rfl⟩ (yOey I_z8z) (cutsL (fun _=>rfl) (.cons yuCy (.cons yEWy .nil)) (by kernel_rfl)) Tryz.func128 (by kernel_rfl) (by kernel_rfl)
abbrev T_z7z:Type 1:=List G_Spot→Int→{R:Type}→(List G_Spot→Option R)→Option R
structure C_z7z where
 N:Nat
 z8z:T_z8z
def z7z_L2 (g:C_z7z):Nat→Int→Int→Int→Int→List G_Spot→{R:Type}→(Int→Int→Int→List G_Spot→Option R)→Option R
 | 0,_,_,_,_,_,_,_=>none
 | n + 1,v3,v4,v5,v6,v7,_,e0=>(bif (decide (v6≤v3)) then (g.z8z v7 v5 v6 (fun r9=>z7z_L2 g n v3 v4 v6 (w64 (v6 + v4)) r9 e0)) else e0 v3 v4 v5 v7)
def z7z_L9 (g:C_z7z):Nat→Int→Int→Int→Int→List G_Spot→{R:Type}→(Int→Int→Int→List G_Spot→Option R)→Option R
 | 0,_,_,_,_,_,_,_=>none
 | n + 1,v27,v28,v29,v30,v31,_,e0=>(bif (decide (v30≤v27)) then none else e0 v27 v28 v29 v31)
def z7z_L7 (g:C_z7z):Nat→Int→Int→List G_Spot→{R:Type}→(List G_Spot→Option R)→Option R
 | 0,_,_,_,_,_=>none
 | n + 1,v15,v16,v17,_,e0=>(bif (decide (v16 < v15)) then (z7z_L9 g g.N v15 v16 0 (w64 (2 * v16)) v17 (fun e32 e33 e34 e35=>(bif (decide ((w64 (e34 + e33)) < e32)) then none else z7z_L7 g n e32 (w64 (e33 * 2)) e35 e0))) else e0 v17)
def z7z_ (g:C_z7z) (a1:List G_Spot) (a2:Int) {R:Type} (k0:List G_Spot→Option R):Option R :=
 (z7z_L2 g g.N a2 20 0 20 a1 (fun e10 e11 e12 e13=>(g.z8z e13 e12 e10 (fun r14=>(z7z_L7 g g.N e10 e11 r14 (fun e36=>k0 e36))))))
noncomputable def I_z7z [Fuel]:C_z7z:=⟨NN,@z8z _⟩
noncomputable def z7z [Fuel]:T_z7z:=@z7z_ I_z7z
def yqRy (g:T_z7z):Spec A:=fun args=>match args with | [.arr 42 a1,.d (.int .i64 a2),.fn 59 []]=>fun k=>g a1 a2 (fun z0=>k (.tup []) [.arr 42 z0,.undef,.fn 59 []]) | _=>fun _=>none
def ynqy:SSt:=mkSh 63 1 [(0,.own 42 0),(1,.int .i64),(2,.fn 59 []),(6,.int .i64),(7,.int .i64),(8,.int .i64)] [(0,.row 42)]
def yhdy (g:C_z7z) (n:Nat):LPT A:=fun ps=>match ps with | [.d (.int .i64 p1),.d (.int .i64 p2),.d (.int .i64 p3),.d (.int .i64 p4),.d (.sl 42 p5)]=>fun K=>z7z_L2 g n p1 p2 p3 p4 p5 (fun z0 z1 z2 z3=>K (.exit 0) (mkSt 63 1 [(0,.own 42 0),(1,.d (.int .i64 z0)),(2,.fn 59 []),(6,.d (.int .i64 z1)),(7,.d (.int .i64 z2))] [(0,some (.row 42 z3))])) | _=>fun _=>none
def ynyy:SSt:=mkSh 63 1 [(0,.own 42 0),(1,.int .i64),(2,.fn 59 []),(6,.int .i64),(7,.int .i64),(8,.int .i64)] [(0,.row 42)]
def yg1y (g:C_z7z) (n:Nat):LPT A:=fun ps=>match ps with | [.d (.int .i64 p1),.d (.int .i64 p2),.d (.int .i64 p3),.d (.int .i64 p4),.d (.sl 42 p5)]=>fun K=>z7z_L9 g n p1 p2 p3 p4 p5 (fun z0 z1 z2 z3=>K (.exit 4) (mkSt 63 1 [(0,.own 42 0),(1,.d (.int .i64 z0)),(2,.fn 59 []),(6,.d (.int .i64 z1)),(7,.d (.int .i64 z2))] [(0,some (.row 42 z3))])) | _=>fun _=>none
def ynay:SSt:=mkSh 63 1 [(0,.own 42 0),(1,.int .i64),(2,.fn 59 []),(6,.int .i64)] [(0,.row 42)]
def ygXy (g:C_z7z) (n:Nat):LPT A:=fun ps=>match ps with | [.d (.int .i64 p1),.d (.int .i64 p2),.d (.sl 42 p3)]=>fun K=>z7z_L7 g n p1 p2 p3 (fun z0=>K (.exit 2) (mkSt 63 1 [(0,.own 42 0),(2,.fn 59 [])] [(0,some (.row 42 z0))])) | _=>fun _=>none
noncomputable def yciy:Code:=(Tryz.f79.body).getD .skip
noncomputable def E_z7z (g:C_z7z):Env A:=mkE [(128,yrzy g.z8z)] [] [(2,⟨[0,1,2,6,7,8],[],[0],[],[],[],[]⟩),(9,⟨[0,1,2,6,7,8],[],[0],[],[],[],[]⟩),(7,⟨[0,1,2,6],[],[0],[],[],[],[]⟩)] [(2,⟨[0,1,2,6,7],[],[0],[],[],[],[]⟩),(9,⟨[0,1,2,6,7],[],[0],[],[],[],[]⟩),(7,⟨[0,2],[],[0],[],[],[],[]⟩)] [(2,yafy ynqy (yhdy g g.N)),(9,yafy ynyy (yg1y g g.N)),(7,yafy ynay (ygXy g g.N))] [] [] [] [(128,0)] [0,2]
theorem ywSy [Fuel]:yahy (E_z7z I_z7z).C:=ct_of (P:=Tryz.prog) (T:=T) (.cons yFQy .nil) (by kernel_rfl)
noncomputable def yumy:Code:=sub [1,1,0,0,0] yciy
theorem yIuy (g:C_z7z) (n:Nat):yaky (E_z7z g) g.N yumy ynqy (yhdy g) n:=by intro ps; unfold yhdy; split; exact .inr fun R K=>(by kernel_rfl); exact .inl fun R K=>rfl
theorem yEMy [Fuel]:yacy (E_z7z I_z7z) NN yumy:=yaey ynqy (yhdy I_z7z) (by kernel_rfl) ywSy (cuts0 (fun _=>rfl) (by kernel_rfl)) (fun ps R K=>by unfold yhdy; split <;> (try unfold z7z_L2) <;> rfl) (yIuy I_z7z)
noncomputable def yuBy:Code:=sub [1,1,1,1,0,0,1,0,1,0,0,0] yciy
theorem yHAy (g:C_z7z) (n:Nat):yaky (E_z7z g) g.N yuBy ynyy (yg1y g) n:=by intro ps; unfold yg1y; split; exact .inr fun R K=>(by kernel_rfl); exact .inl fun R K=>rfl
theorem yuky [Fuel]:yacy (E_z7z I_z7z) NN yuBy:=yaey ynyy (yg1y I_z7z) (by kernel_rfl) ywSy (cuts0 (fun _=>rfl) (by kernel_rfl)) (fun ps R K=>by unfold yg1y; split <;> (try unfold z7z_L9) <;> rfl) (yHAy I_z7z)
noncomputable def yuXy:Code:=sub [1,1,1,1,0,0] yciy
theorem yHPy (g:C_z7z) (n:Nat):yaky (E_z7z g) g.N yuXy ynay (ygXy g) n:=by intro ps; unfold ygXy; split; exact .inr fun R K=>(by kernel_rfl); exact .inl fun R K=>rfl
theorem yFdy [Fuel]:yacy (E_z7z I_z7z) NN yuXy:=yaey ynay (ygXy I_z7z) (by kernel_rfl) ywSy (cutsL (fun _=>rfl) (.cons yuky .nil) (by kernel_rfl)) (fun ps R K=>by unfold ygXy; split <;> (try unfold z7z_L7) <;> rfl) (yHPy I_z7z)
theorem yNdy (g:C_z7z):Same (yqRy (@z7z_ g)) (abody (E_z7z g) Tryz.f79 yciy 1 [0] [] g.N):=by intro args; unfold yqRy; split; exact .inr fun R k=>(by kernel_rfl); exact .inl fun R k=>rfl
theorem yNXy [Fuel]:Ok 79 (yqRy (@z7z _)):=yaay std (.cons yFQy .nil) ⟨rfl,rfl,by kernel_rfl,rfl,rfl,rfl⟩ (yNdy I_z7z) (cutsL (fun _=>rfl) (.cons yEMy (.cons yuky (.cons yFdy .nil))) (by kernel_rfl)) Tryz.func79 (by kernel_rfl) (by kernel_rfl)
abbrev yvIy:Type 1:=List G_Spot→{R:Type}→(List G_Spot→Option R)→Option R
structure C_z34z where
 N:Nat
 z7z:T_z7z
def z34z_ (g:C_z34z) (a1:List G_Spot) {R:Type} (k0:List G_Spot→Option R):Option R :=
 (g.z7z a1 (a1.length:Int) (fun r2=>k0 r2))
noncomputable def yyby [Fuel]:C_z34z:=⟨NN,@z7z _⟩
noncomputable def z34z [Fuel]:yvIy:=@z34z_ yyby
def ynVy (g:yvIy):Spec A:=fun args=>match args with | [.arr 42 a1,.fn 59 []]=>fun k=>g a1 (fun z0=>k (.tup []) [.arr 42 z0,.fn 59 []]) | _=>fun _=>none
noncomputable def ytBy:Code:=(Tryz.f38.body).getD .skip
noncomputable def yNAy (g:C_z34z):Env A:=mkE [(79,yqRy g.z7z)] [] [] [] [] [] [] [] [(79,0)] [0,1]
theorem yIUy (g:C_z34z):Same (ynVy (@z34z_ g)) (abody (yNAy g) Tryz.f38 ytBy 1 [0] [] g.N):=by intro args; unfold ynVy; split; exact .inr fun R k=>(by kernel_rfl); exact .inl fun R k=>rfl
theorem yBBy [Fuel]:Ok 38 (ynVy (@z34z _)):=yaay std (.cons yNXy .nil) ⟨rfl,rfl,by kernel_rfl,rfl,rfl,rfl⟩ (yIUy yyby) (cuts0 (fun _=>rfl) (by kernel_rfl)) Tryz.func38 (by kernel_rfl) (by kernel_rfl)
abbrev yv2y:Type 1:=List G_Spot→{R:Type}→(List G_Spot→Option R)→Option R
def z22z_L9 (g:Nat):Nat→Int→Int→Int→Int→List G_Spot→{R:Type}→(Int→List G_Spot→Option R)→Option R
 | 0,_,_,_,_,_,_,_=>none
 | n + 1,v23,v24,v25,v26,v27,_,e0=>(bif (decide (v26 < ((v25 - v24).toNat:Int))) then (bif (decide (0≤v26) && (decide (v26 < v25 - v24) && decide (v24 + v26 < (v27.length:Int)))) then (at_ v27 (v24 + v26) fun x32=>(bif (decide (0≤(w64 (v26 - 1))) && (decide ((w64 (v26 - 1)) < v25 - v24) && decide (v24 + (w64 (v26 - 1)) < (v27.length:Int)))) then (at_ v27 (v24 + (w64 (v26 - 1))) fun x33=>(bif (!(ycVy x32 x33)) then (bif (decide (0≤v26) && (decide (v26 < v25 - v24) && decide (v24 + v26 < (v27.length:Int)))) then (at_ v27 (v24 + v26) fun x34=>(inr v27 v23 (at_ v27 v23 fun x35=>z22z_L9 g n (w64 (v23 + 1)) v24 v25 (w64 (v26 + 1)) (set_ v27 v23 x34) e0))) else none) else z22z_L9 g n v23 v24 v25 (w64 (v26 + 1)) v27 e0)) else none)) else none) else e0 v23 v27)
def z22z_L4 (g:Nat):Nat→Int→List G_Spot→{R:Type}→(List G_Spot→Option R)→(List G_Spot→Option R)→Option R
 | 0,_,_,_,_,_=>none
 | n + 1,v2,v3,_,e0,e1=>(bif (decide (v2 < (v3.length:Int))) then (inr v3 v2 (at_ v3 v2 fun x21=>(inr v3 (w64 (v2 - 1)) (at_ v3 (w64 (v2 - 1)) fun x22=>(bif (ycVy x21 x22) then (bif (decide (0 < v3.length) && (decide (0≤v2) && decide (v2≤(v3.length:Int)))) then (z22z_L9 g g v2 v2 (v3.length:Int) 1 v3 (fun e36 e37=>(bif (decide (0 < e37.length) && (decide (0≤e36) && decide (e36≤(e37.length:Int)))) then (bif (decide (0≤e36) && (decide (e36≤(e37.length:Int)) && decide (((e37.length:Int)).toNat≤e37.length))) then (bif (decide (0≤e36) && decide (e36≤((e37.take (e36).toNat ++ (List.replicate ((e37.length:Int) - e36).toNat (⟨0,0,[],[]⟩:G_Spot) ++ e37.drop ((e37.length:Int)).toNat)).length:Int))) then e0 ((e37.take (e36).toNat ++ (List.replicate ((e37.length:Int) - e36).toNat (⟨0,0,[],[]⟩:G_Spot) ++ e37.drop ((e37.length:Int)).toNat)).take (e36:Int).toNat) else none) else none) else none))) else none) else z22z_L4 g n (w64 (v2 + 1)) v3 e0 e1))))) else e1 v3)
def z22z_ (g:Nat) (a1:List G_Spot) {R:Type} (k0:List G_Spot→Option R):Option R :=
 (bif (decide ((a1.length:Int) < 2)) then k0 a1 else (z22z_L4 g g 1 a1 (fun e38=>k0 e38) (fun e39=>k0 e39)))
noncomputable def z22z [Fuel]:yv2y:=@z22z_ NN
def ynPy (g:yv2y):Spec A:=fun args=>match args with | [.arr 42 a1]=>fun k=>g a1 (fun z0=>k (.arr 42 z0) [.undef]) | _=>fun _=>none
def ylZy:SSt:=mkSh 61 6 [(0,.own 42 0),(3,.int .i64),(4,.vw 42 0),(5,.int .i64)] [(0,.row 42)]
def yfqy (g:Nat) (n:Nat):LPT A:=fun ps=>match ps with | [.d (.int .i64 p1),.z p2,.z p3,.d (.int .i64 p4),.d (.sl 42 p5)]=>fun K=>z22z_L9 g n p1 p2 p3 p4 p5 (fun z0 z1=>K (.exit 2) (mkSt 61 6 [(0,.own 42 0),(3,.d (.int .i64 z0))] [(0,some (.row 42 z1))])) | _=>fun _=>none
def ylEy:SSt:=mkSh 61 6 [(0,.own 42 0),(3,.int .i64)] [(0,.row 42)]
def yfmy (g:Nat) (n:Nat):LPT A:=fun ps=>match ps with | [.d (.int .i64 p1),.d (.sl 42 p2)]=>fun K=>z22z_L4 g n p1 p2 (fun z0=>K .ret (mkSt 61 6 [(0,.own 42 0),(2,.own 42 5)] [(5,some (.row 42 z0))])) (fun z0=>K (.exit 0) (mkSt 61 6 [(0,.own 42 0)] [(0,some (.row 42 z0))])) | _=>fun _=>none
noncomputable def ytQy:Code:=(Tryz.f60.body).getD .skip
noncomputable def yjyy (g:Nat):Env A:=mkE [] [(28,[1,2]),(56,[3,4]),(59,[5])] [(9,⟨[0,3,4,5],[],[0],[],[],[],[]⟩),(4,⟨[0,3],[],[0],[],[],[],[]⟩)] [(9,⟨[0,3],[],[0],[],[],[],[]⟩),(4,⟨[0,2],[],[0,5],[],[],[],[]⟩)] [(9,yafy ylZy (yfqy g g)),(4,yafy ylEy (yfmy g g))] [] [] [] [] []
theorem yBky [Fuel]:yahy (yjyy NN).C:=ct_of (P:=Tryz.prog) (T:=T) .nil (by kernel_rfl)
noncomputable def ysHy:Code:=sub [1,1,0,1,0,0,1,0,0,1,0,1,0,1,0,0] ytQy
theorem yEGy (g:Nat) (n:Nat):yaky (yjyy g) g ysHy ylZy (yfqy g) n:=by intro ps; unfold yfqy; split; exact .inr fun R K=>(by kernel_rfl); exact .inl fun R K=>rfl
theorem yr2y [Fuel]:yacy (yjyy NN) NN ysHy:=yaey ylZy (yfqy NN) (by kernel_rfl) yBky (cuts0 (fun _=>rfl) (by kernel_rfl)) (fun ps R K=>by unfold yfqy; split <;> (try unfold z22z_L9) <;> rfl) (yEGy NN)
noncomputable def yrYy:Code:=sub [1,1,0,1,0,0] ytQy
theorem yD1y (g:Nat) (n:Nat):yaky (yjyy g) g yrYy ylEy (yfmy g) n:=by intro ps; unfold yfmy; split; exact .inr fun R K=>(by kernel_rfl); exact .inl fun R K=>rfl
theorem yCmy [Fuel]:yacy (yjyy NN) NN yrYy:=yaey ylEy (yfmy NN) (by kernel_rfl) yBky (cutsL (fun _=>rfl) (.cons yr2y .nil) (by kernel_rfl)) (fun ps R K=>by unfold yfmy; split <;> (try unfold z22z_L4) <;> rfl) (yD1y NN)
theorem yKBy (g:Nat):Same (ynPy (@z22z_ g)) (abody (yjyy g) Tryz.f60 ytQy 6 [0] [.arr 42] g):=by intro args; unfold ynPy; split; exact .inr fun R k=>(by kernel_rfl); exact .inl fun R k=>rfl
theorem yAry [Fuel]:Ok 60 (ynPy (@z22z _)):=yaay std .nil ⟨rfl,rfl,by kernel_rfl,rfl,rfl,rfl⟩ (yKBy NN) (cutsL (fun _=>rfl) (.cons yr2y (.cons yCmy .nil)) (by kernel_rfl)) Tryz.func60 (by kernel_rfl) (by kernel_rfl)
abbrev yvQy:Type 1:=G_Stream→Int→{R:Type}→(List G_Spot→G_Stream→Option R)→Option R
structure C_z52z where
 N:Nat
 z69z:ykwy
 z34z:yvIy
 z84z:yqHy
 z89z:yyTy
 z80z:yrhy
 Stream_Odd:yigy
 z22z:yv2y
def z52z_L4 (g:C_z52z):Nat→Int→Int→Int→G_Stream→List G_Spot→{R:Type}→(G_Stream→List G_Spot→Option R)→Option R
 | 0,_,_,_,_,_,_,_=>none
 | n + 1,v3,v4,v5,v6,v7,_,e0=>(bif (decide (v5 < v4)) then (g.z84z v6 [0,1,5,20] (fun r24 r25=>(g.z84z r25 [7000000,7100000,7299999,7300000,14000000,14010000,14020000,14020000,1800000,5000000] (fun r26 r27=>(g.z89z r27 (fun r28 r29=>(g.z80z r29 [[119,49,97,119],[110,49,109,109]] (fun r30 r31=>(g.z69z r31 80 (fun r32 r33=>(bif r32 then (g.Stream_Odd r33 0 100 (fun r34 r35=>(g.Stream_Odd r35 0 30000000000 (fun r36 r37=>(g.z80z r37 [[],[119,49,97,119]] (fun r38 r39=>(bif (decide ((v7.length + [(⟨r34,r36,r28,r38⟩:G_Spot)].length) * 48≤yaly)) then z52z_L4 g n (w64 (v3 + r24)) v4 (w64 (v5 + 1)) r39 (v7 ++ [(⟨r34,r36,r28,r38⟩:G_Spot)]) e0 else none))))))) else (bif (decide ((v7.length + [(⟨(w64 (v3 + r24)),r26,r28,r30⟩:G_Spot)].length) * 48≤yaly)) then z52z_L4 g n (w64 (v3 + r24)) v4 (w64 (v5 + 1)) r33 (v7 ++ [(⟨(w64 (v3 + r24)),r26,r28,r30⟩:G_Spot)]) e0 else none)))))))))))) else e0 v6 v7)
def z52z_ (g:C_z52z) (a1:G_Stream) (a2:Int) {R:Type} (k0:List G_Spot→G_Stream→Option R):Option R :=
 (z52z_L4 g g.N 0 a2 0 a1 [] (fun e40 e41=>(g.z34z e41 (fun r42=>(g.z22z r42 (fun r43=>k0 r43 e40))))))
noncomputable def ycmy [Fuel]:C_z52z:=⟨NN,@z69z _,@z34z _,@z84z _,@z89z _,@z80z _,@Stream_Odd _,@z22z _⟩
noncomputable def z52z [Fuel]:yvQy:=@z52z_ ycmy
def ynTy (g:yvQy):Spec A:=fun args=>match args with | [.box [.d (.sl 3 a1),.d (.int .i64 a2)],.d (.int .i64 a3)]=>fun k=>g ⟨a1,a2⟩ a3 (fun z0 z1=>k (.arr 42 z0) [.box [.d (.sl 3 z1.f_L),.d (.int .i64 z1.f_at)],.undef]) | _=>fun _=>none
def ykRy:SSt:=mkSh 47 10 [(0,.ptr 0 0),(5,.own 42 1),(6,.int .i64),(8,.int .i64),(9,.int .i64)] [(0,.box [.sl 3,.int .i64]),(1,.row 42)]
def yfby (g:C_z52z) (n:Nat):LPT A:=fun ps=>match ps with | [.d (.int .i64 p1),.d (.int .i64 p2),.d (.int .i64 p3),.d (.sl 3 p4),.d (.int .i64 p5),.d (.sl 42 p6)]=>fun K=>z52z_L4 g n p1 p2 p3 ⟨p4,p5⟩ p6 (fun z0 z1=>K (.exit 0) (mkSt 47 10 [(0,.ptr 0 0),(5,.own 42 1)] [(0,some (.box [.d (.sl 3 z0.f_L),.d (.int .i64 z0.f_at)])),(1,some (.row 42 z1))])) | _=>fun _=>none
noncomputable def yASy:Code:=(Tryz.f26.body).getD .skip
noncomputable def yqYy (g:C_z52z):Env A:=mkE [(25,ygry g.z69z),(38,ynVy g.z34z),(55,yjwy g.z84z),(56,ynNy g.z89z),(57,yj4y g.z80z),(58,yegy g.Stream_Odd),(60,ynPy g.z22z)] [(7,[5]),(13,[2]),(18,[3]),(23,[4]),(33,[6]),(40,[7]),(41,[8]),(46,[9])] [(4,⟨[0,5,6,8,9],[(5,42,1)],[0],[],[],[],[]⟩)] [(4,⟨[0,5],[],[0,1],[],[],[],[]⟩)] [(4,yafy ykRy (yfby g g.N))] [] [] [] [(38,0),(60,0)] [0]
theorem yMWy [Fuel]:yahy (yqYy ycmy).C:=ct_of (P:=Tryz.prog) (T:=T) (.cons yhRy (.cons yBBy (.cons ytvy (.cons yB6y (.cons ytMy (.cons ymfy (.cons yAry .nil))))))) (by kernel_rfl)
noncomputable def yqNy:Code:=sub [1,1,1,0,1,0,0] yASy
theorem yEdy (g:C_z52z) (n:Nat):yaky (yqYy g) g.N yqNy ykRy (yfby g) n:=by intro ps; unfold yfby; split; exact .inr fun R K=>(by kernel_rfl); exact .inl fun R K=>rfl
theorem yDPy [Fuel]:yacy (yqYy ycmy) NN yqNy:=yaey ykRy (yfby ycmy) (by kernel_rfl) yMWy (cuts0 (fun _=>rfl) (by kernel_rfl)) (fun ps R K=>by unfold yfby; split <;> (try unfold z52z_L4) <;> rfl) (yEdy ycmy)
theorem yMty (g:C_z52z):Same (ynTy (@z52z_ g)) (abody (yqYy g) Tryz.f26 yASy 10 [0] [.arr 42] g.N):=by intro args; unfold ynTy; split; exact .inr fun R k=>(by kernel_rfl); exact .inl fun R k=>rfl
theorem yBMy [Fuel]:Ok 26 (ynTy (@z52z _)):=yaay std (.cons yhRy (.cons yBBy (.cons ytvy (.cons yB6y (.cons ytMy (.cons ymfy (.cons yAry .nil))))))) ⟨rfl,rfl,by kernel_rfl,rfl,rfl,rfl⟩ (yMty ycmy) (cutsL (fun _=>rfl) (.cons yDPy .nil) (by kernel_rfl)) Tryz.func26 (by kernel_rfl) (by kernel_rfl)
abbrev yrDy:Type 1:=Int→Int→Int→{R:Type}→(Bool→Option R)→Option R
def Q_in_ (g:Nat) (a1 a2 a3:Int) {R:Type} (k0:Bool→Option R):Option R :=
 (bif (decide (a2≤a1)) then k0 (decide (a1≤a3)) else k0 false)
noncomputable def Q_in [Fuel]:yrDy:=@Q_in_ NN
def yj0y (g:yrDy):Spec A:=fun args=>match args with | [.d (.int .i64 a1),.d (.int .i64 a2),.d (.int .i64 a3)]=>fun k=>g a1 a2 a3 (fun z0=>k (.d (.bool z0)) [.undef,.undef,.undef]) | _=>fun _=>none
noncomputable def yIWy:Code:=(Tryz.f62.body).getD .skip
noncomputable def yNfy (g:Nat):Env A:=mkE [] [] [] [] [] [] [] [] [] []
theorem yJ2y (g:Nat):Same (yj0y (@Q_in_ g)) (abody (yNfy g) Tryz.f62 yIWy 0 [] [.asis] g):=by intro args; unfold yj0y; split; exact .inr fun R k=>(by kernel_rfl); exact .inl fun R k=>rfl
theorem ys2y [Fuel]:Ok 62 (yj0y (@Q_in _)):=yaay std .nil ⟨rfl,rfl,by kernel_rfl,rfl,rfl,rfl⟩ (yJ2y NN) (cuts0 (fun _=>rfl) (by kernel_rfl)) Tryz.func62 (by kernel_rfl) (by kernel_rfl)
abbrev yk2y:Type 1:=Int→{R:Type}→(Bool→Option R)→Option R
structure C_Q_Moment where
 N:Nat
 Q_in:yrDy
def ymRy (g:C_Q_Moment) (a1:Int) {R:Type} (k0:Bool→Option R):Option R :=
 (g.Q_in a1 0 345686399999 (fun r2=>k0 r2))
noncomputable def ylwy [Fuel]:C_Q_Moment:=⟨NN,@Q_in _⟩
noncomputable def Q_Moment [Fuel]:yk2y:=@ymRy ylwy
def ygEy (g:yk2y):Spec A:=fun args=>match args with | [.d (.int .i64 a1)]=>fun k=>g a1 (fun z0=>k (.d (.bool z0)) [.undef]) | _=>fun _=>none
noncomputable def yJPy:Code:=(Tryz.f61.body).getD .skip
noncomputable def yCjy (g:C_Q_Moment):Env A:=mkE [(62,yj0y g.Q_in)] [] [] [] [] [] [] [] [] []
theorem yzWy (g:C_Q_Moment):Same (ygEy (@ymRy g)) (abody (yCjy g) Tryz.f61 yJPy 0 [] [.asis] g.N):=by intro args; unfold ygEy; split; exact .inr fun R k=>(by kernel_rfl); exact .inl fun R k=>rfl
theorem ypey [Fuel]:Ok 61 (ygEy (@Q_Moment _)):=yaay std (.cons ys2y .nil) ⟨rfl,rfl,by kernel_rfl,rfl,rfl,rfl⟩ (yzWy ylwy) (cuts0 (fun _=>rfl) (by kernel_rfl)) Tryz.func61 (by kernel_rfl) (by kernel_rfl)
abbrev ycfy:Type 1:=List UInt8→List UInt8→{R:Type}→(Int→Option R)→Option R
def stringslite_Index [Fuel]:ycfy:=@X_ix1
def yc4y (g:ycfy):Spec A:=yj5y g
theorem yfry [Fuel]:Ok 198 (yc4y (@stringslite_Index _)):=⟨yvyy (yFry (Any.stringslite_Index_one Tryz.lays219)),yAby,yaOy (fn:=Tryz.f198) Tryz.func198 (by kernel_rfl) (by kernel_rfl)⟩
abbrev yysy:Type 1:=List UInt8→List UInt8→{R:Type}→(List UInt8→List UInt8→Bool→Option R)→Option R
structure C_z92z where
 N:Nat
 stringslite_Index:ycfy
def z92z_ (g:C_z92z) (a1 a2:List UInt8) {R:Type} (k0:List UInt8→List UInt8→Bool→Option R):Option R :=
 (g.stringslite_Index a1 a2 (fun r3=>(bif (decide (r3 ≥ 0)) then (bif (decide (0≤r3) && decide (r3≤(a1.length:Int))) then (bif (decide (0≤(w64 (r3 + (a2.length:Int)))) && decide ((w64 (r3 + (a2.length:Int)))≤(a1.length:Int))) then k0 (a1.take (r3:Int).toNat) (a1.drop ((w64 (r3 + (a2.length:Int))):Int).toNat) true else none) else none) else k0 a1 [] false)))
noncomputable def yELy [Fuel]:C_z92z:=⟨NN,@stringslite_Index _⟩
noncomputable def z92z [Fuel]:yysy:=@z92z_ yELy
def yoRy (g:yysy):Spec A:=fun args=>match args with | [.d (.str a1),.d (.str a2)]=>fun k=>g a1 a2 (fun z0 z1 z2=>k (.tup [.d (.str z0),.d (.str z1),.d (.bool z2)]) [.undef,.undef]) | _=>fun _=>none
noncomputable def yHey:Code:=(Tryz.f165.body).getD .skip
noncomputable def yOky (g:C_z92z):Env A:=mkE [(198,yc4y g.stringslite_Index)] [] [] [] [] [] [] [] [] []
theorem yIQy (g:C_z92z):Same (yoRy (@z92z_ g)) (abody (yOky g) Tryz.f165 yHey 0 [] [.asis,.asis,.asis] g.N):=by intro args; unfold yoRy; split; exact .inr fun R k=>(by kernel_rfl); exact .inl fun R k=>rfl
theorem yMDy [Fuel]:Ok 165 (yoRy (@z92z _)):=yaay std (.cons yfry .nil) ⟨rfl,rfl,by kernel_rfl,rfl,rfl,rfl⟩ (yIQy yELy) (cuts0 (fun _=>rfl) (by kernel_rfl)) Tryz.func165 (by kernel_rfl) (by kernel_rfl)
abbrev yr0y:Type 1:=List UInt8→List UInt8→{R:Type}→(List UInt8→List UInt8→Bool→Option R)→Option R
structure C_z98z where
 N:Nat
 z92z:yysy
def z98z_ (g:C_z98z) (a1 a2:List UInt8) {R:Type} (k0:List UInt8→List UInt8→Bool→Option R):Option R :=
 (g.z92z a1 a2 (fun r3 r4 r5=>k0 r3 r4 r5))
noncomputable def yEqy [Fuel]:C_z98z:=⟨NN,@z92z _⟩
noncomputable def z98z [Fuel]:yr0y:=@z98z_ yEqy
def ykay (g:yr0y):Spec A:=fun args=>match args with | [.d (.str a1),.d (.str a2)]=>fun k=>g a1 a2 (fun z0 z1 z2=>k (.tup [.d (.str z0),.d (.str z1),.d (.bool z2)]) [.undef,.undef]) | _=>fun _=>none
noncomputable def yGXy:Code:=(Tryz.f124.body).getD .skip
noncomputable def yOpy (g:C_z98z):Env A:=mkE [(165,yoRy g.z92z)] [] [] [] [] [] [] [] [] []
theorem yMGy (g:C_z98z):Same (ykay (@z98z_ g)) (abody (yOpy g) Tryz.f124 yGXy 0 [] [.asis,.asis,.asis] g.N):=by intro args; unfold ykay; split; exact .inr fun R k=>(by kernel_rfl); exact .inl fun R k=>rfl
theorem yBmy [Fuel]:Ok 124 (ykay (@z98z _)):=yaay std (.cons yMDy .nil) ⟨rfl,rfl,by kernel_rfl,rfl,rfl,rfl⟩ (yMGy yEqy) (cuts0 (fun _=>rfl) (by kernel_rfl)) Tryz.func124 (by kernel_rfl) (by kernel_rfl)
abbrev ydiy:Type 1:=List UInt8→Int→{R:Type}→(Int→Option R)→Option R
def strings_IndexRune [Fuel]:ydiy:=@X_ixr
def yffy (g:ydiy):Spec A:=yjzy g
theorem yfVy [Fuel]:Ok 224 (yffy (@strings_IndexRune _)):=⟨yvly (yFgy (fun s r w h0 h1=>Any.strings_IndexRune_ascii Tryz.lays152 s r w h0 h1)),yzyy,yaOy (fn:=Tryz.f224) Tryz.func224 (by kernel_rfl) (by kernel_rfl)⟩
abbrev yxEy:Type 1:=Int→{R:Type}→(Bool→Option R)→Option R
def z77z_ (g:Nat) (a1:Int) {R:Type} (k0:Bool→Option R):Option R :=
 k0 (decide (a1 > 8))
noncomputable def z77z [Fuel]:yxEy:=@z77z_ NN
def yoLy (g:yxEy):Spec A:=fun args=>match args with | [.d (.int .i64 a1)]=>fun k=>g a1 (fun z0=>k (.d (.bool z0)) [.undef]) | _=>fun _=>none
noncomputable def yHuy:Code:=(Tryz.f225.body).getD .skip
noncomputable def yNJy (g:Nat):Env A:=mkE [] [] [] [] [] [] [] [] [] []
theorem yISy (g:Nat):Same (yoLy (@z77z_ g)) (abody (yNJy g) Tryz.f225 yHuy 0 [] [.asis] g):=by intro args; unfold yoLy; split; exact .inr fun R k=>(by kernel_rfl); exact .inl fun R k=>rfl
theorem yBIy [Fuel]:Ok 225 (yoLy (@z77z _)):=yaay std .nil ⟨rfl,rfl,by kernel_rfl,rfl,rfl,rfl⟩ (yISy NN) (cuts0 (fun _=>rfl) (by kernel_rfl)) Tryz.func225 (by kernel_rfl) (by kernel_rfl)
abbrev yxby:Type 1:=List UInt8→{R:Type}→Option R
def z79z_ (g:Nat) (a1:List UInt8) {R:Type}  : Option R :=
 none
noncomputable def z79z [Fuel]:yxby:=@z79z_ NN
def yoOy (g:yxby):Spec A:=fun args=>match args with | [.d (.str a1)]=>fun k=>g a1 | _=>fun _=>none
noncomputable def yvGy:Code:=(Tryz.f172.body).getD .skip
noncomputable def yFGy (g:Nat):Env A:=mkE [] [] [] [] [] [] [] [] [] []
noncomputable def yDAy:Code:=sub [1,0,1,0,0] yvGy
theorem yDfy [Fuel]:yacy (yFGy NN) NN yDAy:=yooy (by kernel_rfl)
theorem yLdy (g:Nat):Same (yoOy (@z79z_ g)) (abody (yFGy g) Tryz.f172 yvGy 0 [] [.asis,.asis] g):=by intro args; unfold yoOy; split; exact .inr fun R k=>(by kernel_rfl); exact .inl fun R k=>rfl
theorem yATy [Fuel]:Ok 172 (yoOy (@z79z _)):=yaay std .nil ⟨rfl,rfl,by kernel_rfl,rfl,rfl,rfl⟩ (yLdy NN) (cutsL (fun _=>rfl) (.cons yDfy .nil) (by kernel_rfl)) Tryz.func172 (by kernel_rfl) (by kernel_rfl)
end Go.Am
