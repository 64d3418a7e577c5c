/- The functions of the program as Lean functions, each shown to be what the code computes, part 8. No condition: lemmas for the claim. -/
import Derived.Test.YtfmhkakoakcpgaaGreatDoorF0
import Derived.Test.YtfmhkakoakcpgaaGreatDoorFSh
import Derived.Test.YtfmhkakoakcpgaaGreatDoorF1
import Derived.Test.YtfmhkakoakcpgaaGreatDoorF4
import Derived.Test.YtfmhkakoakcpgaaGreatDoorF5
import Derived.Test.YtfmhkakoakcpgaaGreatDoorF6
import Derived.Test.YtfmhkakoakcpgaaGreatDoorF7
set_option linter.unusedVariables false
set_option maxRecDepth 100000
namespace Go.Am
open Go Go.Proofs
abbrev ytYy:Type 1:=Int→{R:Type}→(List G_Contact→Option R)→Option R
def z66z [Fuel]:ytYy:=@ydpy G_Contact 96
def yj5y (g:ytYy):Spec A:=fun args=>match args with | [.d .nsl,.d (.int .i64 x1)]=>fun k=>g x1 (fun z=>k (.arr 39 z) [.undef,.undef]) | _=>fun _=>none
theorem yy2y [Fuel] (xs:Int) (R:Type) (k:IV A→List (IV A)→Option R):yj5y (@z66z _) [.d .nsl,.d (.int .i64 xs)] k = ydpy (α:=A 39) 96 xs (fun z=>k (.arr 39 z) [.undef,.undef]):=by kernel_rfl
theorem yyVy [Fuel] (args:List (IV A)) (R:Type) (k:IV A→List (IV A)→Option R) (h:∀ xs:Int,args ≠ [.d .nsl,.d (.int .i64 xs)]):yj5y (@z66z _) args k = none:=by unfold yj5y; split; exact absurd rfl (h _); rfl
theorem yy3y [Fuel]:Ok 63 (yj5y (@z66z _)):=⟨yzjy (yqhy rfl (tyOk Tryz.prog) (e:=39) (size:=8) (bytes:=96) (ty:=39) (by kernel_rfl) (fun w=>yCAy Tryz.grow63 w) (fun n w hn hb hm=>yCRy Tryz.grow63 Tryz.ti39 Tryz.zv39 (by kernel_rfl) (by kernel_rfl) 8 96 (by kernel_rfl) (by kernel_rfl) (by decide) (by kernel_rfl) n w hn hb hm)) yy2y yyVy,yzCy yy2y yyVy,yaSy (fn:=Tryz.f63) Tryz.func63 (by kernel_rfl) (by kernel_rfl)⟩
abbrev T_z6z:Type 1:=List (List G_Contact)→{R:Type}→(List G_Contact→Option R)→Option R
structure C_z6z where
 N:Nat
 z66z:ytYy
def z6z_L3 (g:C_z6z):Nat→List (List G_Contact)→Int→List (List G_Contact)→Int→Int→{R:Type}→(List (List G_Contact)→Int→Option R)→Option R
 | 0,_,_,_,_,_,_,_=>none
 | n + 1,v2,v3,v4,v5,v6,_,e0=>(bif (decide (v6 < v5)) then (get_ v4 v6 fun x8=>(bif (decide ((w64 (v3 + (x8.length:Int))) < 0)) then none else z6z_L3 g n v2 (w64 (v3 + (x8.length:Int))) v4 v5 (w64 (v6 + 1)) e0)) else e0 v2 v3)
def z6z_L11 (g:C_z6z):Nat→List (List G_Contact)→Int→Int→List G_Contact→{R:Type}→(List G_Contact→Option R)→Option R
 | 0,_,_,_,_,_,_=>none
 | n + 1,v12,v13,v14,v15,_,e0=>(bif (decide (v14 < v13)) then (get_ v12 v14 fun x17=>(bif (decide ((v15.length + x17.length) * 96≤yady)) then z6z_L11 g n v12 v13 (w64 (v14 + 1)) (v15 ++ x17) e0 else none)) else e0 v15)
def z6z_ (g:C_z6z) (a1:List (List G_Contact)) {R:Type} (k0:List G_Contact→Option R):Option R :=
 (z6z_L3 g g.N a1 0 a1 (a1.length:Int) 0 (fun e9 e10=>(g.z66z e10 (fun r11=>(z6z_L11 g g.N e9 (e9.length:Int) 0 r11 (fun e18=>k0 e18))))))
noncomputable def I_z6z [Fuel]:C_z6z:=⟨NN,@z66z _⟩
noncomputable def z6z [Fuel]:T_z6z:=@z6z_ I_z6z
def ypdy (g:T_z6z):Spec A:=fun args=>match args with | [.d (.sl 29 a1)]=>fun k=>g a1 (fun z0=>k (.arr 39 z0) [.undef]) | _=>fun _=>none
def yl2y:SSt:=mkSh 36 3 [(0,.sl 29),(3,.int .i64),(9,.sl 29),(10,.int .i64),(11,.int .i64)] []
def ygSy (g:C_z6z) (n:Nat):LPT A:=fun ps=>match ps with | [.d (.sl 29 p1),.d (.int .i64 p2),.d (.sl 29 p3),.d (.int .i64 p4),.d (.int .i64 p5)]=>fun K=>z6z_L3 g n p1 p2 p3 p4 p5 (fun z0 z1=>K (.exit 0) (mkSt 36 3 [(0,.d (.sl 29 z0)),(3,.d (.int .i64 z1))] [])) | _=>fun _=>none
def ykTy:SSt:=mkSh 36 3 [(6,.own 39 1),(25,.sl 29),(26,.int .i64),(27,.int .i64)] [(1,.row 39)]
def yfgy (g:C_z6z) (n:Nat):LPT A:=fun ps=>match ps with | [.d (.sl 29 p1),.d (.int .i64 p2),.d (.int .i64 p3),.d (.sl 39 p4)]=>fun K=>z6z_L11 g n p1 p2 p3 p4 (fun z0=>K (.exit 2) (mkSt 36 3 [(6,.own 39 1)] [(1,some (.row 39 z0))])) | _=>fun _=>none
noncomputable def yrGy:Code:=(Tryz.f29.body).getD .skip
noncomputable def E_z6z (g:C_z6z):Env A:=mkE [(63,yj5y g.z66z)] [(24,[0]),(33,[2])] [(3,⟨[0,3,9,10,11],[],[],[],[],[],[]⟩),(11,⟨[6,25,26,27],[(6,39,1)],[],[],[],[],[]⟩)] [(3,⟨[0,3],[],[],[],[],[],[]⟩),(11,⟨[6],[],[1],[],[],[],[]⟩)] [(3,yaiy yl2y (ygSy g g.N)),(11,yaiy ykTy (yfgy g g.N))] [] [] [] [(63,0)] []
theorem yBqy [Fuel]:yamy (E_z6z I_z6z).C:=ct_of (P:=Tryz.prog) (T:=T) (.cons yy3y .nil) (by kernel_rfl)
noncomputable def ysLy:Code:=sub [1,1,0,1,0,0] yrGy
theorem yEny (g:C_z6z) (n:Nat):yaoy (E_z6z g) g.N ysLy yl2y (ygSy g) n:=by intro ps; unfold ygSy; split; exact .inr fun R K=>(by kernel_rfl); exact .inl fun R K=>rfl
theorem yDAy [Fuel]:yahy (E_z6z I_z6z) NN ysLy:=yaky yl2y (ygSy I_z6z) (by kernel_rfl) yBqy (cuts0 (fun _=>rfl) (by kernel_rfl)) (fun ps R K=>by unfold ygSy; split <;> (try unfold z6z_L3) <;> rfl) (yEny I_z6z)
noncomputable def yqOy:Code:=sub [1,1,1,1,0,1,0,0] yrGy
theorem yCWy (g:C_z6z) (n:Nat):yaoy (E_z6z g) g.N yqOy ykTy (yfgy g) n:=by intro ps; unfold yfgy; split; exact .inr fun R K=>(by kernel_rfl); exact .inl fun R K=>rfl
theorem yAGy [Fuel]:yahy (E_z6z I_z6z) NN yqOy:=yaky ykTy (yfgy I_z6z) (by kernel_rfl) yBqy (cuts0 (fun _=>rfl) (by kernel_rfl)) (fun ps R K=>by unfold yfgy; split <;> (try unfold z6z_L11) <;> rfl) (yCWy I_z6z)
theorem yJ2y (g:C_z6z):Same (ypdy (@z6z_ g)) (abody (E_z6z g) Tryz.f29 yrGy 3 [] [.arr 39] g.N):=by intro args; unfold ypdy; split; exact .inr fun R k=>(by kernel_rfl); exact .inl fun R k=>rfl
theorem yCky [Fuel]:Ok 29 (ypdy (@z6z _)):=yacy std (.cons yy3y .nil) ⟨rfl,rfl,by kernel_rfl,rfl,rfl,rfl⟩ (yJ2y I_z6z) (cutsL (fun _=>rfl) (.cons yDAy (.cons yAGy .nil)) (by kernel_rfl)) Tryz.func29 (by kernel_rfl) (by kernel_rfl)
abbrev yh3y:Type 1:=List G_Deed→List G_Deed→Int→{R:Type}→(List G_Contact→Int→Option R)→Option R
structure C_net_Differ where
 N:Nat
 z13z:ylWy
 z50z:yh4y
 z16z:yp9y
 z6z:T_z6z
 z37z:yuGy
def ybuy (g:C_net_Differ):Nat→List G_Deed→List G_Deed→Int→Int→Int→List (List G_Deed)→{R:Type}→(List G_Deed→List G_Deed→Int→Int→Option R)→(List G_Deed→List G_Deed→Int→Option R)→Option R
 | 0,_,_,_,_,_,_,_,_,_=>none
 | n + 1,v4,v5,v6,v7,v8,v9,_,e0,e1=>(bif (decide (v8 < v7)) then (inr v9 v8 (at_ v9 v8 fun x12=>(g.z13z x12 (fun r13=>(bif (r13 != 0) then e0 v4 v5 v6 r13 else ybuy g n v4 v5 v6 v7 (w64 (v8 + 1)) v9 e0 e1))))) else e1 v4 v5 v6)
def ygmy (g:C_net_Differ) (a1 a2:List G_Deed) (a3:Int) {R:Type} (k0:List G_Contact→Int→Option R):Option R :=
 (ybuy g g.N a1 a2 a3 ([a1,a2].length:Int) 0 [a1,a2] (fun e14 e15 e16 e17=>k0 [] e17) (fun e18 e19 e20=>(g.z50z e20 (fun r21=>(bif (!r21) then k0 [] 1 else (g.z16z e18 e20 (fun r22=>(bif (r22 != 0) then k0 [] r22 else (g.z16z e19 e20 (fun r23=>(bif (r23 != 0) then k0 [] r23 else none)) (fun r24 r25 r26 r27 r28 r29=>(bif (r29 != 0) then k0 [] r29 else none))))) (fun r30 r31 r32 r33 r34 r35=>(bif (r35 != 0) then k0 [] r35 else (g.z16z e19 e20 (fun r36=>(bif (r36 != 0) then k0 [] r36 else none)) (fun r37 r38 r39 r40 r41 r42=>(bif (r42 != 0) then k0 [] r42 else (g.z37z r31 r38 (fun r43=>(g.z37z r38 r31 (fun r44=>(g.z6z [r43,r44] (fun r45=>k0 r45 0)))))))))))))))))
noncomputable def yaMy [Fuel]:C_net_Differ:=⟨NN,@z13z _,@z50z _,@z16z _,@z6z _,@z37z _⟩
noncomputable def net_Differ [Fuel]:yh3y:=@ygmy yaMy
def yehy (g:yh3y):Spec A:=fun args=>match args with | [.d (.sl 41 a1),.d (.sl 41 a2),.d (.int .i64 a3)]=>fun k=>g a1 a2 a3 (fun z0 z1=>k (.tup [.arr 39 z0,.d (.int .i64 z1)]) [.undef,.undef,.undef]) | _=>fun _=>none
def yeBy:SSt:=mkSh 69 17 [(0,.sl 41),(1,.sl 41),(2,.int .i64),(16,.own 26 0),(17,.int .i64),(18,.int .i64)] [(0,.row 26)]
def ycby (g:C_net_Differ) (n:Nat):LPT A:=fun ps=>match ps with | [.d (.sl 41 p1),.d (.sl 41 p2),.d (.int .i64 p3),.d (.int .i64 p4),.d (.int .i64 p5),.d (.sl 26 p6)]=>fun K=>ybuy g n p1 p2 p3 p4 p5 p6 (fun z0 z1 z2 z3=>K .ret (mkSt 69 17 [(0,.d (.sl 41 z0)),(1,.d (.sl 41 z1)),(2,.d (.int .i64 z2)),(6,.d .nsl),(7,.d (.int .i64 z3))] [])) (fun z0 z1 z2=>K (.exit 0) (mkSt 69 17 [(0,.d (.sl 41 z0)),(1,.d (.sl 41 z1)),(2,.d (.int .i64 z2))] [])) | _=>fun _=>none
noncomputable def yyLy:Code:=(Tryz.f10.body).getD .skip
noncomputable def yfFy (g:C_net_Differ):Env A:=mkE [(23,yhCy g.z13z),(27,yeFy g.z50z),(28,yjPy g.z16z),(29,ypdy g.z6z),(30,ym2y g.z37z)] [(16,[0]),(34,[7,8,9,10,11,12]),(43,[1,2,3,4,5,6]),(57,[13]),(66,[14]),(67,[15]),(68,[16])] [(2,⟨[0,1,2,16,17,18],[],[0],[],[],[],[]⟩)] [(2,⟨[0,1,2,6,7],[],[],[],[],[],[]⟩)] [(2,yaiy yeBy (ycby g g.N))] [] [] [] [] []
theorem ytgy [Fuel]:yamy (yfFy yaMy).C:=ct_of (P:=Tryz.prog) (T:=T) (.cons yjEy (.cons yhBy (.cons yrYy (.cons yCky (.cons yzEy .nil))))) (by kernel_rfl)
noncomputable def yh9y:Code:=sub [1,0,1,0,0] yyLy
theorem yqUy (g:C_net_Differ) (n:Nat):yaoy (yfFy g) g.N yh9y yeBy (ycby g) n:=by intro ps; unfold ycby; split; exact .inr fun R K=>(by kernel_rfl); exact .inl fun R K=>rfl
theorem yoIy [Fuel]:yahy (yfFy yaMy) NN yh9y:=yaky yeBy (ycby yaMy) (by kernel_rfl) ytgy (cuts0 (fun _=>rfl) (by kernel_rfl)) (fun ps R K=>by unfold ycby; split <;> (try unfold ybuy) <;> rfl) (yqUy yaMy)
theorem ytdy (g:C_net_Differ):Same (yehy (@ygmy g)) (abody (yfFy g) Tryz.f10 yyLy 17 [] [.arr 39,.asis] g.N):=by intro args; unfold yehy; split; exact .inr fun R k=>(by kernel_rfl); exact .inl fun R k=>rfl
theorem ylny [Fuel]:Ok 10 (yehy (@net_Differ _)):=yacy std (.cons yjEy (.cons yhBy (.cons yrYy (.cons yCky (.cons yzEy .nil))))) ⟨rfl,rfl,by kernel_rfl,rfl,rfl,rfl⟩ (ytdy yaMy) (cutsL (fun _=>rfl) (.cons yoIy .nil) (by kernel_rfl)) Tryz.func10 (by kernel_rfl) (by kernel_rfl)
abbrev yu1y:Type 1:={R:Type}→Option R
def z83z_ (g:Nat)  {R:Type}  : Option R :=
 none
noncomputable def z83z [Fuel]:yu1y:=@z83z_ NN
def ynEy (g:yu1y):Spec A:=fun args=>match args with | [.d (.lit (.pointer none))]=>fun k=>g | _=>fun _=>none
noncomputable def yyRy:Code:=(Tryz.f31.body).getD .skip
noncomputable def yJyy (g:Nat):Env A:=mkE [] [] [] [] [] [] [] [] [] []
theorem yF7y (g:Nat):Same (ynEy (@z83z_ g)) (abody (yJyy g) Tryz.f31 yyRy 0 [] [.arr 3] g):=by intro args; unfold ynEy; split; exact .inr fun R k=>(by kernel_rfl); exact .inl fun R k=>rfl
theorem yFSy [Fuel]:Ok 31 (ynEy (@z83z _)):=yacy std .nil ⟨rfl,rfl,by kernel_rfl,rfl,rfl,rfl⟩ (yF7y NN) (cuts0 (fun _=>rfl) (by kernel_rfl)) Tryz.func31 (by kernel_rfl) (by kernel_rfl)
abbrev yp5y:Type 1:=List G_Contact→{R:Type}→(Int→Option R)→Option R
structure C_z36z where
 N:Nat
 z59z:yq8y
 z42z:ywny
def z36z_L4 (g:C_z36z):Nat→List G_Contact→List G_Contact→Int→Int→{R:Type}→(Int→Option R)→Option R→Option R
 | 0,_,_,_,_,_,_,_=>none
 | n + 1,v2,v3,v4,v5,_,e0,e1=>(bif (decide (v5 < v4)) then (get_ v3 v5 fun x10=>(g.z59z x10 (fun r11=>(bif (r11 != 0) then e0 r11 else (bif (decide (v5 > 0)) then (get_ v2 (w64 (v5 - 1)) fun x12=>(g.z42z x12 x10 (fun r13=>(bif (decide (r13 ≥ 0)) then e0 7 else z36z_L4 g n v2 v3 v4 (w64 (v5 + 1)) e0 e1)))) else z36z_L4 g n v2 v3 v4 (w64 (v5 + 1)) e0 e1))))) else e1)
def z36z_ (g:C_z36z) (a1:List G_Contact) {R:Type} (k0:Int→Option R):Option R :=
 (bif (decide ((a1.length:Int) > 2000)) then k0 2 else (z36z_L4 g g.N a1 a1 (a1.length:Int) 0 (fun e14=>k0 e14) (k0 0)))
noncomputable def ydry [Fuel]:C_z36z:=⟨NN,@z59z _,@z42z _⟩
noncomputable def z36z [Fuel]:yp5y:=@z36z_ ydry
def yjAy (g:yp5y):Spec A:=fun args=>match args with | [.d (.sl 39 a1)]=>fun k=>g a1 (fun z0=>k (.d (.int .i64 z0)) [.undef]) | _=>fun _=>none
def ykfy:SSt:=mkSh 34 1 [(0,.sl 39),(9,.sl 39),(10,.int .i64),(11,.int .i64)] []
def yeRy (g:C_z36z) (n:Nat):LPT A:=fun ps=>match ps with | [.d (.sl 39 p1),.d (.sl 39 p2),.d (.int .i64 p3),.d (.int .i64 p4)]=>fun K=>z36z_L4 g n p1 p2 p3 p4 (fun z0=>K .ret (mkSt 34 1 [(2,.d (.int .i64 z0))] [])) (K (.exit 0) (mkSt 34 1 [] [])) | _=>fun _=>none
noncomputable def yzAy:Code:=(Tryz.f14.body).getD .skip
noncomputable def ypyy (g:C_z36z):Env A:=mkE [(33,yjgy g.z59z),(34,yePy g.z42z)] [(4,[0])] [(4,⟨[0,9,10,11],[],[],[],[],[],[]⟩)] [(4,⟨[2],[],[],[],[],[],[]⟩)] [(4,yaiy ykfy (yeRy g g.N))] [] [] [] [] []
theorem yF9y [Fuel]:yamy (ypyy ydry).C:=ct_of (P:=Tryz.prog) (T:=T) (.cons yrQy (.cons yzry .nil)) (by kernel_rfl)
noncomputable def yrhy:Code:=sub [1,1,0,1,0,0] yzAy
theorem yBRy (g:C_z36z) (n:Nat):yaoy (ypyy g) g.N yrhy ykfy (yeRy g) n:=by intro ps; unfold yeRy; split; exact .inr fun R K=>(by kernel_rfl); exact .inl fun R K=>rfl
theorem yAxy [Fuel]:yahy (ypyy ydry) NN yrhy:=yaky ykfy (yeRy ydry) (by kernel_rfl) yF9y (cuts0 (fun _=>rfl) (by kernel_rfl)) (fun ps R K=>by unfold yeRy; split <;> (try unfold z36z_L4) <;> rfl) (yBRy ydry)
theorem yI7y (g:C_z36z):Same (yjAy (@z36z_ g)) (abody (ypyy g) Tryz.f14 yzAy 1 [] [.asis] g.N):=by intro args; unfold yjAy; split; exact .inr fun R k=>(by kernel_rfl); exact .inl fun R k=>rfl
theorem yriy [Fuel]:Ok 14 (yjAy (@z36z _)):=yacy std (.cons yrQy (.cons yzry .nil)) ⟨rfl,rfl,by kernel_rfl,rfl,rfl,rfl⟩ (yI7y ydry) (cutsL (fun _=>rfl) (.cons yAxy .nil) (by kernel_rfl)) Tryz.func14 (by kernel_rfl) (by kernel_rfl)
abbrev ytLy:Type 1:=List UInt8→{R:Type}→(List UInt8→Option R)→Option R
structure C_z82z where
 N:Nat
 call_Parts:yfGy
def z82z_ (g:C_z82z) (a1:List UInt8) {R:Type} (k0:List UInt8→Option R):Option R :=
 (g.call_Parts a1 (fun r2 r3=>k0 r2.f_Base))
noncomputable def yBLy [Fuel]:C_z82z:=⟨NN,@call_Parts _⟩
noncomputable def z82z [Fuel]:ytLy:=@z82z_ yBLy
def ynry (g:ytLy):Spec A:=fun args=>match args with | [.d (.str a1)]=>fun k=>g a1 (fun z0=>k (.d (.str z0)) [.undef]) | _=>fun _=>none
noncomputable def yIpy:Code:=(Tryz.f64.body).getD .skip
noncomputable def yJ6y (g:C_z82z):Env A:=mkE [(104,yc1y g.call_Parts)] [(3,[0])] [] [] [] [] [] [] [] []
theorem yHdy (g:C_z82z):Same (ynry (@z82z_ g)) (abody (yJ6y g) Tryz.f64 yIpy 1 [] [.asis] g.N):=by intro args; unfold ynry; split; exact .inr fun R k=>(by kernel_rfl); exact .inl fun R k=>rfl
theorem yr7y [Fuel]:Ok 64 (ynry (@z82z _)):=yacy std (.cons ylwy .nil) ⟨rfl,rfl,by kernel_rfl,rfl,rfl,rfl⟩ (yHdy yBLy) (cuts0 (fun _=>rfl) (by kernel_rfl)) Tryz.func64 (by kernel_rfl) (by kernel_rfl)
abbrev yiJy:Type 1:=List G_Contact→{R:Type}→(List Int→Option R)→Option R
structure C_log_dupes where
 N:Nat
 z82z:ytLy
def ybGy (g:C_log_dupes):Nat→List G_Contact→Int→Int→List (G_log_worked×Bool)→List Int→{R:Type}→(List Int→Option R)→Option R
 | 0,_,_,_,_,_,_,_=>none
 | n + 1,v2,v3,v4,v5,v6,_,e0=>(bif (decide (v4 < v3)) then (get_ v2 v4 fun x9=>(g.z82z x9.f_Call (fun r10=>(bif ((yaEy (⟨r10,x9.f_Band,x9.f_Mode⟩:G_log_worked) v5).getD false) then (bif (decide ((v6.length + [v4].length) * 8≤yady)) then ybGy g n v2 v3 (w64 (v4 + 1)) (ya6y (⟨r10,x9.f_Band,x9.f_Mode⟩:G_log_worked) true v5) (v6 ++ [v4]) e0 else none) else ybGy g n v2 v3 (w64 (v4 + 1)) (ya6y (⟨r10,x9.f_Band,x9.f_Mode⟩:G_log_worked) true v5) v6 e0)))) else e0 v6)
def ypgy (g:C_log_dupes) (a1:List G_Contact) {R:Type} (k0:List Int→Option R):Option R :=
 (ybGy g g.N a1 (a1.length:Int) 0 [] [] (fun e11=>k0 e11))
noncomputable def yb6y [Fuel]:C_log_dupes:=⟨NN,@z82z _⟩
noncomputable def log_dupes [Fuel]:yiJy:=@ypgy yb6y
def yfuy (g:yiJy):Spec A:=fun args=>match args with | [.d (.sl 39 a1)]=>fun k=>g a1 (fun z0=>k (.arr 3 z0) [.undef]) | _=>fun _=>none
def yfiy:SSt:=mkSh 35 6 [(3,.mp 0),(4,.own 3 1),(9,.sl 39),(10,.int .i64),(11,.int .i64)] [(0,.mp 123 4),(1,.row 3)]
def ycwy (g:C_log_dupes) (n:Nat):LPT A:=fun ps=>match ps with | [.d (.sl 39 p1),.d (.int .i64 p2),.d (.int .i64 p3),.mp 123 4 p4,.d (.sl 3 p5)]=>fun K=>ybGy g n p1 p2 p3 p4 p5 (fun z0=>K (.exit 0) (mkSt 35 6 [(4,.own 3 1)] [(1,some (.row 3 z0))])) | _=>fun _=>none
noncomputable def yyDy:Code:=(Tryz.f32.body).getD .skip
noncomputable def ygoy (g:C_log_dupes):Env A:=mkE [(64,ynry g.z82z)] [(6,[2]),(7,[3]),(8,[0]),(29,[4]),(30,[5])] [(4,⟨[3,4,9,10,11],[(4,3,1)],[0],[],[],[],[]⟩)] [(4,⟨[4],[],[1],[],[],[],[]⟩)] [(4,yaiy yfiy (ycwy g g.N))] [] [] [] [] []
theorem yuIy [Fuel]:yamy (ygoy yb6y).C:=ct_of (P:=Tryz.prog) (T:=T) (.cons yr7y .nil) (by kernel_rfl)
noncomputable def yiBy:Code:=sub [1,1,1,0,1,0,0] yyDy
theorem yryy (g:C_log_dupes) (n:Nat):yaoy (ygoy g) g.N yiBy yfiy (ycwy g) n:=by intro ps; unfold ycwy; split; exact .inr fun R K=>(by kernel_rfl); exact .inl fun R K=>rfl
theorem yqmy [Fuel]:yahy (ygoy yb6y) NN yiBy:=yaky yfiy (ycwy yb6y) (by kernel_rfl) yuIy (cuts0 (fun _=>rfl) (by kernel_rfl)) (fun ps R K=>by unfold ycwy; split <;> (try unfold ybGy) <;> rfl) (yryy yb6y)
theorem ytIy (g:C_log_dupes):Same (yfuy (@ypgy g)) (abody (ygoy g) Tryz.f32 yyDy 6 [] [.arr 3] g.N):=by intro args; unfold yfuy; split; exact .inr fun R k=>(by kernel_rfl); exact .inl fun R k=>rfl
theorem yvFy [Fuel]:Ok 32 (yfuy (@log_dupes _)):=yacy std (.cons yr7y .nil) ⟨rfl,rfl,by kernel_rfl,rfl,rfl,rfl⟩ (ytIy yb6y) (cutsL (fun _=>rfl) (.cons yqmy .nil) (by kernel_rfl)) Tryz.func32 (by kernel_rfl) (by kernel_rfl)
abbrev yd3y:Type 1:=List G_Contact→{R:Type}→(List Int→Int→Option R)→Option R
structure C_log_Dupes where
 N:Nat
 z36z:yp5y
 log_dupes:yiJy
def yhry (g:C_log_Dupes) (a1:List G_Contact) {R:Type} (k0:List Int→Int→Option R):Option R :=
 (g.z36z a1 (fun r2=>(bif (r2 != 0) then k0 [] r2 else (g.log_dupes a1 (fun r3=>k0 r3 0)))))
noncomputable def ydWy [Fuel]:C_log_Dupes:=⟨NN,@z36z _,@log_dupes _⟩
noncomputable def log_Dupes [Fuel]:yd3y:=@yhry ydWy
def ycKy (g:yd3y):Spec A:=fun args=>match args with | [.d (.sl 39 a1)]=>fun k=>g a1 (fun z0 z1=>k (.tup [.arr 3 z0,.d (.int .i64 z1)]) [.undef]) | _=>fun _=>none
noncomputable def yGOy:Code:=(Tryz.f12.body).getD .skip
noncomputable def ywYy (g:C_log_Dupes):Env A:=mkE [(14,yjAy g.z36z),(32,yfuy g.log_dupes)] [(11,[0])] [] [] [] [] [] [] [] []
theorem yuuy (g:C_log_Dupes):Same (ycKy (@yhry g)) (abody (ywYy g) Tryz.f12 yGOy 1 [] [.arr 3,.asis] g.N):=by intro args; unfold ycKy; split; exact .inr fun R k=>(by kernel_rfl); exact .inl fun R k=>rfl
theorem yfCy [Fuel]:Ok 12 (ycKy (@log_Dupes _)):=yacy std (.cons yriy (.cons yvFy .nil)) ⟨rfl,rfl,by kernel_rfl,rfl,rfl,rfl⟩ (yuuy ydWy) (cuts0 (fun _=>rfl) (by kernel_rfl)) Tryz.func12 (by kernel_rfl) (by kernel_rfl)
abbrev yu0y:Type 1:=List G_Deed→List G_Contact→List (List UInt8)→List Int→List (G_net_own×Bool)→{R:Type}→(List Int→List G_Deed→List G_Contact→List (List UInt8)→List Int→List (G_net_own×Bool)→Option R)→Option R
structure C_z48z where
 N:Nat
 log_Dupes:yd3y
def z48z_ (g:C_z48z) (a1:List G_Deed) (a2:List G_Contact) (a3:List (List UInt8)) (a4:List Int) (a5:List (G_net_own×Bool)) {R:Type} (k0:List Int→List G_Deed→List G_Contact→List (List UInt8)→List Int→List (G_net_own×Bool)→Option R):Option R :=
 (g.log_Dupes a2 (fun r6 r7=>k0 r6 a1 a2 a3 a4 a5))
noncomputable def yply [Fuel]:C_z48z:=⟨NN,@log_Dupes _⟩
noncomputable def z48z [Fuel]:yu0y:=@z48z_ yply
def yBKy (args:List (IV A)):Bool:=match args with | [.box [.arr 41 _,.arr 39 _,.arr 9 _,.arr 3 _,.mp 70 4 _]]=>true | _=>false
def ynNy (g:yu0y):Spec A:=fun args=>match args with | [.box [.arr 41 a1,.arr 39 a2,.arr 9 a3,.arr 3 a4,.mp 70 4 a5]]=>fun k=>g a1 a2 a3 a4 a5 (fun z0 z1 z2 z3 z4 z5=>k (.arr 3 z0) [.box [.arr 41 z1,.arr 39 z2,.arr 9 z3,.arr 3 z4,.mp 70 4 z5]]) | _=>fun _=>none
noncomputable def yJ5y (g:C_z48z):Env A:=mkE [(12,ycKy g.log_Dupes)] [(10,[6])] [] [] [] [] [] [] [] [0]
theorem yHey (g:C_z48z):Same (ynNy (@z48z_ g)) (abody (yJ5y g) Tryz.f31 yyRy 7 [0,1,2,3,4,5] [.arr 3] g.N):=by intro args; unfold ynNy; split; exact .inr fun R k=>(by kernel_rfl); exact .inl fun R k=>rfl
theorem yHHy [Fuel]:Ok 31 (ynNy (@z48z _)):=yacy std (.cons yfCy .nil) ⟨rfl,rfl,by kernel_rfl,rfl,rfl,rfl⟩ (yHey yply) (cuts0 (fun _=>rfl) (by kernel_rfl)) Tryz.func31 (by kernel_rfl) (by kernel_rfl)
abbrev yiKy:Type 1:=List G_Deed→Int→{R:Type}→(List Int→Int→Option R)→Option R
structure C_net_Twice where
 N:Nat
 z53z:yjXy
 z48z:yu0y
 z83z:yu1y
def yhey (g:C_net_Twice) (a1:List G_Deed) (a2:Int) {R:Type} (k0:List Int→Int→Option R):Option R :=
 (g.z53z a1 a2 (fun r3=>(bif (r3 != 0) then k0 [] r3 else (g.z83z))) (fun r4 r5 r6 r7 r8 r9=>(bif (r9 != 0) then k0 [] r9 else (g.z48z r4 r5 r6 r7 r8 (fun r10 r11 r12 r13 r14 r15=>k0 r10 0)))))
noncomputable def yd9y [Fuel]:C_net_Twice:=⟨NN,@z53z _,@z48z _,@z83z _⟩
noncomputable def net_Twice [Fuel]:yiKy:=@yhey yd9y
def yfVy (g:yiKy):Spec A:=fun args=>match args with | [.d (.sl 41 a1),.d (.int .i64 a2)]=>fun k=>g a1 a2 (fun z0 z1=>k (.tup [.arr 3 z0,.d (.int .i64 z1)]) [.undef,.undef]) | _=>fun _=>none
noncomputable def yHzy:Code:=(Tryz.f11.body).getD .skip
noncomputable def yw0y (g:C_net_Twice):Env A:=mkE [(21,yf8y g.z53z),(31,orS yBKy (ynNy g.z48z) (ynEy g.z83z))] [(11,[0,1,2,3,4,5]),(18,[6,7,8,9,10,11])] [] [] [] [] [] [] [] []
theorem ywOy (g:C_net_Twice):Same (yfVy (@yhey g)) (abody (yw0y g) Tryz.f11 yHzy 12 [] [.arr 3,.asis] g.N):=by intro args; unfold yfVy; split; exact .inr fun R k=>(by kernel_rfl); exact .inl fun R k=>rfl
theorem ylYy [Fuel]:Ok 11 (yfVy (@net_Twice _)):=yacy std (.cons ymYy (.cons (ok_or yBKy yHHy yFSy) .nil)) ⟨rfl,rfl,by kernel_rfl,rfl,rfl,rfl⟩ (ywOy yd9y) (cuts0 (fun _=>rfl) (by kernel_rfl)) Tryz.func11 (by kernel_rfl) (by kernel_rfl)
abbrev ygwy:Type 1:=List Int→{R:Type}→(Int→Option R)→Option R
def yciy (g:Nat):Nat→List Int→Int→Int→{R:Type}→(Int→Option R)→Option R→Option R
 | 0,_,_,_,_,_,_=>none
 | n + 1,v2,v3,v4,_,e0,e1=>(bif (decide (v4 < v3)) then (get_ v2 v4 fun x6=>(bif (x6 != 0) then e0 x6 else yciy g n v2 v3 (w64 (v4 + 1)) e0 e1)) else e1)
def yqzy (g:Nat) (a1:List Int) {R:Type} (k0:Int→Option R):Option R :=
 (yciy g g a1 (a1.length:Int) 0 (fun e7=>k0 e7) (k0 0))
noncomputable def keep_errs [Fuel]:ygwy:=@yqzy NN
def ydEy (g:ygwy):Spec A:=fun args=>match args with | [.d (.sl 30 a1)]=>fun k=>g a1 (fun z0=>k (.d (.int .i64 z0)) [.undef]) | _=>fun _=>none
def yeYy:SSt:=mkSh 15 0 [(5,.sl 30),(6,.int .i64),(7,.int .i64)] []
def ycuy (g:Nat) (n:Nat):LPT A:=fun ps=>match ps with | [.d (.sl 30 p1),.d (.int .i64 p2),.d (.int .i64 p3)]=>fun K=>yciy g n p1 p2 p3 (fun z0=>K .ret (mkSt 15 0 [(2,.d (.int .i64 z0))] [])) (K (.exit 0) (mkSt 15 0 [] [])) | _=>fun _=>none
noncomputable def yzyy:Code:=(Tryz.f13.body).getD .skip
noncomputable def ygty (g:Nat):Env A:=mkE [] [] [(2,⟨[5,6,7],[],[],[],[],[],[]⟩)] [(2,⟨[2],[],[],[],[],[],[]⟩)] [(2,yaiy yeYy (ycuy g g))] [] [] [] [] []
theorem ytTy [Fuel]:yamy (ygty NN).C:=ct_of (P:=Tryz.prog) (T:=T) .nil (by kernel_rfl)
noncomputable def yiqy:Code:=sub [1,0,1,0,0] yzyy
theorem yrmy (g:Nat) (n:Nat):yaoy (ygty g) g yiqy yeYy (ycuy g) n:=by intro ps; unfold ycuy; split; exact .inr fun R K=>(by kernel_rfl); exact .inl fun R K=>rfl
theorem ypwy [Fuel]:yahy (ygty NN) NN yiqy:=yaky yeYy (ycuy NN) (by kernel_rfl) ytTy (cuts0 (fun _=>rfl) (by kernel_rfl)) (fun ps R K=>by unfold ycuy; split <;> (try unfold yciy) <;> rfl) (yrmy NN)
theorem yuHy (g:Nat):Same (ydEy (@yqzy g)) (abody (ygty g) Tryz.f13 yzyy 0 [] [.asis] g):=by intro args; unfold ydEy; split; exact .inr fun R k=>(by kernel_rfl); exact .inl fun R k=>rfl
theorem yhMy [Fuel]:Ok 13 (ydEy (@keep_errs _)):=yacy std .nil ⟨rfl,rfl,by kernel_rfl,rfl,rfl,rfl⟩ (yuHy NN) (cutsL (fun _=>rfl) (.cons ypwy .nil) (by kernel_rfl)) Tryz.func13 (by kernel_rfl) (by kernel_rfl)
abbrev yvoy:Type 1:=List Int→List Int→{R:Type}→(Bool→Option R)→Option R
def z45z_L4 (g:Nat):Nat→List Int→List Int→Int→Int→{R:Type}→(Bool→Option R)→Option R→Option R
 | 0,_,_,_,_,_,_,_=>none
 | n + 1,v3,v4,v5,v6,_,e0,e1=>(bif (decide (v6 < v5)) then (get_ v3 v6 fun x9=>(get_ v4 v6 fun x10=>(bif (x9 != x10) then e0 false else z45z_L4 g n v3 v4 v5 (w64 (v6 + 1)) e0 e1))) else e1)
def z45z_ (g:Nat) (a1 a2:List Int) {R:Type} (k0:Bool→Option R):Option R :=
 (bif ((a1.length:Int) != (a2.length:Int)) then k0 false else (z45z_L4 g g a1 a2 (a1.length:Int) 0 (fun e11=>k0 e11) (k0 true)))
noncomputable def z45z [Fuel]:yvoy:=@z45z_ NN
def ynhy (g:yvoy):Spec A:=fun args=>match args with | [.d (.sl 3 a1),.d (.sl 3 a2)]=>fun k=>g a1 a2 (fun z0=>k (.d (.bool z0)) [.undef,.undef]) | _=>fun _=>none
def ykzy:SSt:=mkSh 26 0 [(0,.sl 3),(1,.sl 3),(12,.int .i64),(13,.int .i64)] []
def yeTy (g:Nat) (n:Nat):LPT A:=fun ps=>match ps with | [.d (.sl 3 p1),.d (.sl 3 p2),.d (.int .i64 p3),.d (.int .i64 p4)]=>fun K=>z45z_L4 g n p1 p2 p3 p4 (fun z0=>K .ret (mkSt 26 0 [(4,.d (.bool z0))] [])) (K (.exit 0) (mkSt 26 0 [] [])) | _=>fun _=>none
noncomputable def yzdy:Code:=(Tryz.f15.body).getD .skip
noncomputable def yqDy (g:Nat):Env A:=mkE [] [] [(4,⟨[0,1,12,13],[],[],[],[],[],[]⟩)] [(4,⟨[4],[],[],[],[],[],[]⟩)] [(4,yaiy ykzy (yeTy g g))] [] [] [] [] []
theorem yFAy [Fuel]:yamy (yqDy NN).C:=ct_of (P:=Tryz.prog) (T:=T) .nil (by kernel_rfl)
noncomputable def yqJy:Code:=sub [1,1,0,1,0,0] yzdy
theorem yB7y (g:Nat) (n:Nat):yaoy (yqDy g) g yqJy ykzy (yeTy g) n:=by intro ps; unfold yeTy; split; exact .inr fun R K=>(by kernel_rfl); exact .inl fun R K=>rfl
theorem yAqy [Fuel]:yahy (yqDy NN) NN yqJy:=yaky ykzy (yeTy NN) (by kernel_rfl) yFAy (cuts0 (fun _=>rfl) (by kernel_rfl)) (fun ps R K=>by unfold yeTy; split <;> (try unfold z45z_L4) <;> rfl) (yB7y NN)
theorem yIZy (g:Nat):Same (ynhy (@z45z_ g)) (abody (yqDy g) Tryz.f15 yzdy 0 [] [.asis] g):=by intro args; unfold ynhy; split; exact .inr fun R k=>(by kernel_rfl); exact .inl fun R k=>rfl
theorem yxWy [Fuel]:Ok 15 (ynhy (@z45z _)):=yacy std .nil ⟨rfl,rfl,by kernel_rfl,rfl,rfl,rfl⟩ (yIZy NN) (cutsL (fun _=>rfl) (.cons yAqy .nil) (by kernel_rfl)) Tryz.func15 (by kernel_rfl) (by kernel_rfl)
abbrev yvty:Type 1:=List G_Deed→Int→{R:Type}→(List Int→Int→Option R)→Option R
structure C_z80z where
 N:Nat
 z62z:yqLy
 z12z:ypUy
def z80z_ (g:C_z80z) (a1:List G_Deed) (a2:Int) {R:Type} (k0:List Int→Int→Option R):Option R :=
 (g.z62z a1 a2 (fun r3=>(bif (r3 != 0) then k0 [] r3 else (g.z12z a1 a2 (fun r4=>k0 r4 0)))))
noncomputable def ymcy [Fuel]:C_z80z:=⟨NN,@z62z _,@z12z _⟩
noncomputable def z80z [Fuel]:yvty:=@z80z_ ymcy
def ym8y (g:yvty):Spec A:=fun args=>match args with | [.d (.sl 41 a1),.d (.int .i64 a2)]=>fun k=>g a1 a2 (fun z0 z1=>k (.tup [.arr 3 z0,.d (.int .i64 z1)]) [.undef,.undef]) | _=>fun _=>none
noncomputable def yGCy:Code:=(Tryz.f16.body).getD .skip
noncomputable def yKUy (g:C_z80z):Env A:=mkE [(35,yj7y g.z62z),(36,ydby g.z12z)] [(15,[0])] [] [] [] [] [] [] [] []
theorem yHgy (g:C_z80z):Same (ym8y (@z80z_ g)) (abody (yKUy g) Tryz.f16 yGCy 1 [] [.arr 3,.asis] g.N):=by intro args; unfold ym8y; split; exact .inr fun R k=>(by kernel_rfl); exact .inl fun R k=>rfl
theorem yzuy [Fuel]:Ok 16 (ym8y (@z80z _)):=yacy std (.cons yycy (.cons yrBy .nil)) ⟨rfl,rfl,by kernel_rfl,rfl,rfl,rfl⟩ (yHgy ymcy) (cuts0 (fun _=>rfl) (by kernel_rfl)) Tryz.func16 (by kernel_rfl) (by kernel_rfl)
abbrev yumy:Type 1:=List Int→{R:Type}→(Int→Option R)→Option R
structure C_z29z where
 N:Nat
 kit_IsMode:ydwy
def z29z_L4 (g:C_z29z):Nat→List Int→List Int→Int→Int→{R:Type}→(Int→Option R)→Option R→Option R
 | 0,_,_,_,_,_,_,_=>none
 | n + 1,v2,v3,v4,v5,_,e0,e1=>(bif (decide (v5 < v4)) then (get_ v3 v5 fun x9=>(g.kit_IsMode x9 (fun r10=>(bif (!r10) then e0 4 else (bif (decide (v5 > 0)) then (get_ v2 (w64 (v5 - 1)) fun x11=>(bif (decide (x9≤x11)) then e0 7 else z29z_L4 g n v2 v3 v4 (w64 (v5 + 1)) e0 e1)) else z29z_L4 g n v2 v3 v4 (w64 (v5 + 1)) e0 e1))))) else e1)
def z29z_ (g:C_z29z) (a1:List Int) {R:Type} (k0:Int→Option R):Option R :=
 (bif ((a1.length:Int) == 0) then k0 8 else (z29z_L4 g g.N a1 a1 (a1.length:Int) 0 (fun e12=>k0 e12) (k0 0)))
noncomputable def ydAy [Fuel]:C_z29z:=⟨NN,@kit_IsMode _⟩
noncomputable def z29z [Fuel]:yumy:=@z29z_ ydAy
def ynny (g:yumy):Spec A:=fun args=>match args with | [.d (.sl 3 a1)]=>fun k=>g a1 (fun z0=>k (.d (.int .i64 z0)) [.undef]) | _=>fun _=>none
def ykSy:SSt:=mkSh 30 0 [(0,.sl 3),(8,.sl 3),(9,.int .i64),(10,.int .i64)] []
def yfoy (g:C_z29z) (n:Nat):LPT A:=fun ps=>match ps with | [.d (.sl 3 p1),.d (.sl 3 p2),.d (.int .i64 p3),.d (.int .i64 p4)]=>fun K=>z29z_L4 g n p1 p2 p3 p4 (fun z0=>K .ret (mkSt 30 0 [(2,.d (.int .i64 z0))] [])) (K (.exit 0) (mkSt 30 0 [] [])) | _=>fun _=>none
noncomputable def yuXy:Code:=(Tryz.f108.body).getD .skip
noncomputable def yqNy (g:C_z29z):Env A:=mkE [(65,ycoy g.kit_IsMode)] [] [(4,⟨[0,8,9,10],[],[],[],[],[],[]⟩)] [(4,⟨[2],[],[],[],[],[],[]⟩)] [(4,yaiy ykSy (yfoy g g.N))] [] [] [] [] []
theorem yHWy [Fuel]:yamy (yqNy ydAy).C:=ct_of (P:=Tryz.prog) (T:=T) (.cons yemy .nil) (by kernel_rfl)
noncomputable def yqVy:Code:=sub [1,1,0,1,0,0] yuXy
theorem yDey (g:C_z29z) (n:Nat):yaoy (yqNy g) g.N yqVy ykSy (yfoy g) n:=by intro ps; unfold yfoy; split; exact .inr fun R K=>(by kernel_rfl); exact .inl fun R K=>rfl
theorem yADy [Fuel]:yahy (yqNy ydAy) NN yqVy:=yaky ykSy (yfoy ydAy) (by kernel_rfl) yHWy (cuts0 (fun _=>rfl) (by kernel_rfl)) (fun ps R K=>by unfold yfoy; split <;> (try unfold z29z_L4) <;> rfl) (yDey ydAy)
theorem yG7y (g:C_z29z):Same (ynny (@z29z_ g)) (abody (yqNy g) Tryz.f108 yuXy 0 [] [.asis] g.N):=by intro args; unfold ynny; split; exact .inr fun R k=>(by kernel_rfl); exact .inl fun R k=>rfl
theorem yxTy [Fuel]:Ok 108 (ynny (@z29z _)):=yacy std (.cons yemy .nil) ⟨rfl,rfl,by kernel_rfl,rfl,rfl,rfl⟩ (yG7y ydAy) (cutsL (fun _=>rfl) (.cons yADy .nil) (by kernel_rfl)) Tryz.func108 (by kernel_rfl) (by kernel_rfl)
abbrev yhWy:Type 1:=G_Window→{R:Type}→(Bool→Option R)→Option R
def yi7y (g:Nat) (a1:G_Window) {R:Type} (k0:Bool→Option R):Option R :=
 (bif (decide (a1.f_From ≥ 0)) then (bif (decide (a1.f_From < a1.f_To)) then k0 (decide (a1.f_To≤345686400000)) else k0 false) else k0 false)
noncomputable def kit_IsTime [Fuel]:yhWy:=@yi7y NN
def yepy (g:yhWy):Spec A:=fun args=>match args with | [.agg [.d (.int .i64 a1),.d (.int .i64 a2)]]=>fun k=>g ⟨a1,a2⟩ (fun z0=>k (.d (.bool z0)) [.undef]) | _=>fun _=>none
noncomputable def yEGy:Code:=(Tryz.f109.body).getD .skip
noncomputable def ywHy (g:Nat):Env A:=mkE [] [(1,[0])] [] [] [] [] [] [] [] []
theorem ythy (g:Nat):Same (yepy (@yi7y g)) (abody (ywHy g) Tryz.f109 yEGy 1 [] [.asis] g):=by intro args; unfold yepy; split; exact .inr fun R k=>(by kernel_rfl); exact .inl fun R k=>rfl
theorem yliy [Fuel]:Ok 109 (yepy (@kit_IsTime _)):=yacy std .nil ⟨rfl,rfl,by kernel_rfl,rfl,rfl,rfl⟩ (ythy NN) (cuts0 (fun _=>rfl) (by kernel_rfl)) Tryz.func109 (by kernel_rfl) (by kernel_rfl)
abbrev yuLy:Type 1:=G_Segment→G_Segment→{R:Type}→(Int→Option R)→Option R
structure C_z56z where
 N:Nat
 z25z:yidy
 z26z:yjNy
 strings_Compare:ybcy
def z56z_ (g:C_z56z) (a1 a2:G_Segment) {R:Type} (k0:Int→Option R):Option R :=
 (g.strings_Compare a1.f_Class a2.f_Class (fun r3=>(g.z26z a1.f_Low a2.f_Low (fun r4=>(g.z26z a1.f_High a2.f_High (fun r5=>(g.z26z a1.f_Time.f_From a2.f_Time.f_From (fun r6=>(g.z25z [r3,r4,r5,r6] (fun r7=>k0 r7))))))))))
noncomputable def yuqy [Fuel]:C_z56z:=⟨NN,@z25z _,@z26z _,@strings_Compare _⟩
noncomputable def z56z [Fuel]:yuLy:=@z56z_ yuqy
def ynfy (g:yuLy):Spec A:=fun args=>match args with | [.agg [.d (.str a1),.d (.int .i64 a2),.d (.int .i64 a3),.d (.sl 3 a4),.d (.int .i64 a5),.d (.int .i64 a6)],.agg [.d (.str a7),.d (.int .i64 a8),.d (.int .i64 a9),.d (.sl 3 a10),.d (.int .i64 a11),.d (.int .i64 a12)]]=>fun k=>g ⟨a1,a2,a3,a4,⟨a5,a6⟩⟩ ⟨a7,a8,a9,a10,⟨a11,a12⟩⟩ (fun z0=>k (.d (.int .i64 z0)) [.undef,.undef]) | _=>fun _=>none
noncomputable def yDSy:Code:=(Tryz.f110.body).getD .skip
noncomputable def yKDy (g:C_z56z):Env A:=mkE [(57,ybZy g.z25z),(58,yb7y g.z26z),(59,yaFy g.strings_Compare)] [(2,[0]),(3,[1]),(27,[2])] [] [] [] [] [] [] [] []
theorem yJgy (g:C_z56z):Same (ynfy (@z56z_ g)) (abody (yKDy g) Tryz.f110 yDSy 3 [] [.asis] g.N):=by intro args; unfold ynfy; split; exact .inr fun R k=>(by kernel_rfl); exact .inl fun R k=>rfl
theorem yzby [Fuel]:Ok 110 (ynfy (@z56z _)):=yacy std (.cons yhyy (.cons ynGy (.cons ybky .nil))) ⟨rfl,rfl,by kernel_rfl,rfl,rfl,rfl⟩ (yJgy yuqy) (cuts0 (fun _=>rfl) (by kernel_rfl)) Tryz.func110 (by kernel_rfl) (by kernel_rfl)
end Go.Am
