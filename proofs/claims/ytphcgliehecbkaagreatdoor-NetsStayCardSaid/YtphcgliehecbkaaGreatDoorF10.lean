/- The functions of the program as Lean functions, each shown to be what the code computes, part 10. No condition: lemmas for the claim. -/
import Derived.Test.YtphcgliehecbkaaGreatDoorF0
import Derived.Test.YtphcgliehecbkaaGreatDoorFSh
import Derived.Test.YtphcgliehecbkaaGreatDoorF4
import Derived.Test.YtphcgliehecbkaaGreatDoorF6
import Derived.Test.YtphcgliehecbkaaGreatDoorF7
import Derived.Test.YtphcgliehecbkaaGreatDoorF8
import Derived.Test.YtphcgliehecbkaaGreatDoorF9
set_option linter.unusedVariables false
set_option maxRecDepth 100000
namespace Go.Am
open Go Go.Proofs
abbrev ys1y:Type 1:=List G_Place→{R:Type}→(List G_Place→Option R)→Option R
structure C_z16z where
 N:Nat
 z34z:ysyy
def z16z_L3 (g:C_z16z):Nat→Int→Int→List G_Place→{R:Type}→(List G_Place→Option R)→Option R
 | 0,_,_,_,_,_=>none
 | n + 1,v3,v4,v5,_,e0=>(bif (decide (v4 < v3)) then (inr v5 v4 (at_ v5 v4 fun x11=>(bif (decide (v4 > 0)) then (inr (set_ v5 v4 (⟨(w64 (v4 + 1)),x11.f_Points,x11.f_Key⟩:G_Place)) v4 (at_ (set_ v5 v4 (⟨(w64 (v4 + 1)),x11.f_Points,x11.f_Key⟩:G_Place)) v4 fun x12=>(inr (set_ v5 v4 (⟨(w64 (v4 + 1)),x11.f_Points,x11.f_Key⟩:G_Place)) (w64 (v4 - 1)) (at_ (set_ v5 v4 (⟨(w64 (v4 + 1)),x11.f_Points,x11.f_Key⟩:G_Place)) (w64 (v4 - 1)) fun x13=>(bif (x12.f_Points == x13.f_Points) then (inr (set_ v5 v4 (⟨(w64 (v4 + 1)),x11.f_Points,x11.f_Key⟩:G_Place)) (w64 (v4 - 1)) (at_ (set_ v5 v4 (⟨(w64 (v4 + 1)),x11.f_Points,x11.f_Key⟩:G_Place)) (w64 (v4 - 1)) fun x14=>(inr (set_ v5 v4 (⟨(w64 (v4 + 1)),x11.f_Points,x11.f_Key⟩:G_Place)) v4 (at_ (set_ v5 v4 (⟨(w64 (v4 + 1)),x11.f_Points,x11.f_Key⟩:G_Place)) v4 fun x15=>z16z_L3 g n v3 (w64 (v4 + 1)) (set_ (set_ v5 v4 (⟨(w64 (v4 + 1)),x11.f_Points,x11.f_Key⟩:G_Place)) v4 (⟨x14.f_Rank,x15.f_Points,x15.f_Key⟩:G_Place)) e0)))) else z16z_L3 g n v3 (w64 (v4 + 1)) (set_ v5 v4 (⟨(w64 (v4 + 1)),x11.f_Points,x11.f_Key⟩:G_Place)) e0))))) else z16z_L3 g n v3 (w64 (v4 + 1)) (set_ v5 v4 (⟨(w64 (v4 + 1)),x11.f_Points,x11.f_Key⟩:G_Place)) e0))) else e0 v5)
def z16z_ (g:C_z16z) (a1:List G_Place) {R:Type} (k0:List G_Place→Option R):Option R :=
 (g.z34z a1 (fun r2=>(z16z_L3 g g.N (r2.length:Int) 0 r2 (fun e16=>k0 e16))))
noncomputable def yeZy [Fuel]:C_z16z:=⟨NN,@z34z _⟩
noncomputable def z16z [Fuel]:ys1y:=@z16z_ yeZy
def ymmy (g:ys1y):Spec A:=fun args=>match args with | [.arr 125 a1]=>fun k=>g a1 (fun z0=>k (.arr 125 z0) [.undef]) | _=>fun _=>none
def yjmy:SSt:=mkSh 45 1 [(0,.own 125 0),(7,.int .i64),(8,.int .i64)] [(0,.row 125)]
def yeky (g:C_z16z) (n:Nat):LPT A:=fun ps=>match ps with | [.d (.int .i64 p1),.d (.int .i64 p2),.d (.sl 125 p3)]=>fun K=>z16z_L3 g n p1 p2 p3 (fun z0=>K (.exit 0) (mkSt 45 1 [(0,.own 125 0)] [(0,some (.row 125 z0))])) | _=>fun _=>none
noncomputable def yxhy:Code:=(Tryz.f82.body).getD .skip
noncomputable def ypVy (g:C_z16z):Env A:=mkE [(123,yiky g.z34z)] [] [(3,⟨[0,7,8],[],[0],[],[],[],[]⟩)] [(3,⟨[0],[],[0],[],[],[],[]⟩)] [(3,yaiy yjmy (yeky g g.N))] [] [] [] [(123,0)] []
theorem yGoy [Fuel]:yajy (ypVy yeZy).C:=ct_of (P:=Tryz.prog) (T:=T) (.cons yxpy .nil) (by kernel_rfl)
noncomputable def yohy:Code:=sub [1,1,0,1,0,0] yxhy
theorem yBey (g:C_z16z) (n:Nat):yamy (ypVy g) g.N yohy yjmy (yeky g) n:=by intro ps; unfold yeky; split; exact .inr fun R K=>(by kernel_rfl); exact .inl fun R K=>rfl
theorem yyXy [Fuel]:yagy (ypVy yeZy) NN yohy:=yaky yjmy (yeky yeZy) (by kernel_rfl) yGoy (cuts0 (fun _=>rfl) (by kernel_rfl)) (fun ps R K=>by unfold yeky; split <;> (try unfold z16z_L3) <;> rfl) (yBey yeZy)
theorem yFUy (g:C_z16z):Same (ymmy (@z16z_ g)) (abody (ypVy g) Tryz.f82 yxhy 1 [0] [.arr 125] g.N):=by intro args; unfold ymmy; split; exact .inr fun R k=>(by kernel_rfl); exact .inl fun R k=>rfl
theorem yyey [Fuel]:Ok 82 (ymmy (@z16z _)):=yacy std (.cons yxpy .nil) ⟨rfl,rfl,by kernel_rfl,rfl,rfl,rfl⟩ (yFUy yeZy) (cutsL (fun _=>rfl) (.cons yyXy .nil) (by kernel_rfl)) Tryz.func82 (by kernel_rfl) (by kernel_rfl)
abbrev yhry:Type 1:=List G_Entrant→List UInt8→{R:Type}→(List G_Place→Int→Option R)→Option R
structure C_club_Table where
 N:Nat
 kit_IsKey:ybpy
 z28z:yvqy
 z16z:ys1y
def ybYy (g:C_club_Table):Nat→List UInt8→List G_Entrant→Int→Int→List G_Place→{R:Type}→(List G_Place→Option R)→Option R
 | 0,_,_,_,_,_,_,_=>none
 | n + 1,v5,v6,v7,v8,v9,_,e0=>(bif (decide (v8 < v7)) then (get_ v6 v8 fun x11=>(bif (x11.f_Category == v5) then (bif (decide ((v9.length + [(⟨0,x11.f_Points,x11.f_Call⟩:G_Place)].length) * 32≤yady)) then ybYy g n v5 v6 v7 (w64 (v8 + 1)) (v9 ++ [(⟨0,x11.f_Points,x11.f_Call⟩:G_Place)]) e0 else none) else ybYy g n v5 v6 v7 (w64 (v8 + 1)) v9 e0)) else e0 v9)
def yh9y (g:C_club_Table) (a1:List G_Entrant) (a2:List UInt8) {R:Type} (k0:List G_Place→Int→Option R):Option R :=
 (g.z28z a1 (fun r3=>(bif (r3 != 0) then k0 [] r3 else (g.kit_IsKey a2 (fun r4=>(bif (!r4) then k0 [] 5 else (ybYy g g.N a2 a1 (a1.length:Int) 0 [] (fun e12=>(g.z16z e12 (fun r13=>k0 r13 0))))))))))
noncomputable def ya8y [Fuel]:C_club_Table:=⟨NN,@kit_IsKey _,@z28z _,@z16z _⟩
noncomputable def club_Table [Fuel]:yhry:=@yh9y ya8y
def ydHy (g:yhry):Spec A:=fun args=>match args with | [.d (.sl 92 a1),.d (.str a2)]=>fun k=>g a1 a2 (fun z0 z1=>k (.tup [.arr 125 z0,.d (.int .i64 z1)]) [.undef,.undef]) | _=>fun _=>none
def ydZy:SSt:=mkSh 39 5 [(1,.str),(7,.own 125 0),(18,.sl 92),(19,.int .i64),(20,.int .i64)] [(0,.row 125)]
def ybSy (g:C_club_Table) (n:Nat):LPT A:=fun ps=>match ps with | [.d (.str p1),.d (.sl 92 p2),.d (.int .i64 p3),.d (.int .i64 p4),.d (.sl 125 p5)]=>fun K=>ybYy g n p1 p2 p3 p4 p5 (fun z0=>K (.exit 0) (mkSt 39 5 [(7,.own 125 0)] [(0,some (.row 125 z0))])) | _=>fun _=>none
noncomputable def yx6y:Code:=(Tryz.f40.body).getD .skip
noncomputable def yeKy (g:C_club_Table):Env A:=mkE [(68,ybay g.kit_IsKey),(81,yl1y g.z28z),(82,ymmy g.z16z)] [(9,[1]),(34,[2]),(35,[3]),(38,[4])] [(8,⟨[1,7,18,19,20],[(7,125,0)],[],[],[],[],[]⟩)] [(8,⟨[7],[],[0],[],[],[],[]⟩)] [(8,yaiy ydZy (ybSy g g.N))] [] [] [] [(82,0)] []
theorem yrIy [Fuel]:yajy (yeKy ya8y).C:=ct_of (P:=Tryz.prog) (T:=T) (.cons yaOy (.cons ywLy (.cons yyey .nil))) (by kernel_rfl)
noncomputable def yhcy:Code:=sub [1,1,1,1,0,1,0,0] yx6y
theorem ypYy (g:C_club_Table) (n:Nat):yamy (yeKy g) g.N yhcy ydZy (ybSy g) n:=by intro ps; unfold ybSy; split; exact .inr fun R K=>(by kernel_rfl); exact .inl fun R K=>rfl
theorem ynWy [Fuel]:yagy (yeKy ya8y) NN yhcy:=yaky ydZy (ybSy ya8y) (by kernel_rfl) yrIy (cuts0 (fun _=>rfl) (by kernel_rfl)) (fun ps R K=>by unfold ybSy; split <;> (try unfold ybYy) <;> rfl) (ypYy ya8y)
theorem yr1y (g:C_club_Table):Same (ydHy (@yh9y g)) (abody (yeKy g) Tryz.f40 yx6y 5 [] [.arr 125,.asis] g.N):=by intro args; unfold ydHy; split; exact .inr fun R k=>(by kernel_rfl); exact .inl fun R k=>rfl
theorem yr9y [Fuel]:Ok 40 (ydHy (@club_Table _)):=yacy std (.cons yaOy (.cons ywLy (.cons yyey .nil))) ⟨rfl,rfl,by kernel_rfl,rfl,rfl,rfl⟩ (yr1y ya8y) (cutsL (fun _=>rfl) (.cons ynWy .nil) (by kernel_rfl)) Tryz.func40 (by kernel_rfl) (by kernel_rfl)
abbrev ys9y:Type 1:={R:Type}→Option R
def z75z_ (g:Nat)  {R:Type}  : Option R :=
 none
noncomputable def z75z [Fuel]:ys9y:=@z75z_ NN
def ylXy (g:ys9y):Spec A:=fun args=>match args with | [.d (.lit (.pointer none))]=>fun k=>g | _=>fun _=>none
noncomputable def yjBy:Code:=(Tryz.f125.body).getD .skip
noncomputable def yAGy (g:Nat):Env A:=mkE [] [(6,[0])] [] [] [] [] [] [] [] []
noncomputable def yyqy:Code:=sub [1,1,0,1,0,0] yjBy
theorem yyhy [Fuel]:yagy (yAGy NN) NN yyqy:=yd6y (by kernel_rfl)
theorem yFxy (g:Nat):Same (ylXy (@z75z_ g)) (abody (yAGy g) Tryz.f125 yjBy 1 [] [.asis] g):=by intro args; unfold ylXy; split; exact .inr fun R k=>(by kernel_rfl); exact .inl fun R k=>rfl
theorem yEPy [Fuel]:Ok 125 (ylXy (@z75z _)):=yacy std .nil ⟨rfl,rfl,by kernel_rfl,rfl,rfl,rfl⟩ (yFxy NN) (cutsL (fun _=>rfl) (.cons yyhy .nil) (by kernel_rfl)) Tryz.func125 (by kernel_rfl) (by kernel_rfl)
abbrev ysZy:Type 1:={R:Type}→Option R
structure C_z65z where
 N:Nat
 z75z:ys9y
def z65z_ (g:C_z65z)  {R:Type}  : Option R :=
 (g.z75z)
noncomputable def ysRy [Fuel]:C_z65z:=⟨NN,@z75z _⟩
noncomputable def z65z [Fuel]:ysZy:=@z65z_ ysRy
def ymty (g:ysZy):Spec A:=fun args=>match args with | [.d (.lit (.pointer none))]=>fun k=>g | _=>fun _=>none
noncomputable def ylHy:Code:=(Tryz.f83.body).getD .skip
noncomputable def yBny (g:C_z65z):Env A:=mkE [(125,ylXy g.z75z)] [] [] [] [] [] [] [] [] []
noncomputable def yzzy:Code:=sub [1,1,0,1,0,0] ylHy
theorem yzHy [Fuel]:yagy (yBny ysRy) NN yzzy:=yd6y (by kernel_rfl)
theorem yGuy (g:C_z65z):Same (ymty (@z65z_ g)) (abody (yBny g) Tryz.f83 ylHy 0 [] [.asis,.asis] g.N):=by intro args; unfold ymty; split; exact .inr fun R k=>(by kernel_rfl); exact .inl fun R k=>rfl
theorem yGBy [Fuel]:Ok 83 (ymty (@z65z _)):=yacy std (.cons yEPy .nil) ⟨rfl,rfl,by kernel_rfl,rfl,rfl,rfl⟩ (yGuy ysRy) (cutsL (fun _=>rfl) (.cons yzHy .nil) (by kernel_rfl)) Tryz.func83 (by kernel_rfl) (by kernel_rfl)
abbrev yuXy:Type 1:=List G_Deed→List G_Contact→List (List UInt8)→List Int→List (G_net_own×Bool)→{R:Type}→(List (Int×Int)→List G_Deed→List G_Contact→List (List UInt8)→List Int→List (G_net_own×Bool)→Option R)→Option R
def z33z_L3 (g:Nat):Nat→Int→Int→List (G_net_own×Bool)→List (Int×Int)→List G_Deed→List G_Contact→List (List UInt8)→List Int→{R:Type}→(List (G_net_own×Bool)→List (Int×Int)→List G_Deed→List G_Contact→List (List UInt8)→List Int→Option R)→Option R
 | 0,_,_,_,_,_,_,_,_,_,_=>none
 | n + 1,v6,v7,v8,v9,v10,v11,v12,v13,_,e0=>(bif (decide (v7 < v6)) then (inr v11 v7 (at_ v11 v7 fun x15=>(bif (decide (x15.f_Sent > 0)) then z33z_L3 g n v6 (w64 (v7 + 1)) v8 (ycYy x15.f_Sent (w64 (((ybQy x15.f_Sent v9).getD 0) + 1)) v9) v10 v11 v12 v13 e0 else z33z_L3 g n v6 (w64 (v7 + 1)) v8 v9 v10 v11 v12 v13 e0))) else e0 v8 v9 v10 v11 v12 v13)
def z33z_ (g:Nat) (a1:List G_Deed) (a2:List G_Contact) (a3:List (List UInt8)) (a4:List Int) (a5:List (G_net_own×Bool)) {R:Type} (k0:List (Int×Int)→List G_Deed→List G_Contact→List (List UInt8)→List Int→List (G_net_own×Bool)→Option R):Option R :=
 (z33z_L3 g g (a2.length:Int) 0 a5 [] a1 a2 a3 a4 (fun e16 e17 e18 e19 e20 e21=>k0 e17 e18 e19 e20 e21 e16))
noncomputable def z33z [Fuel]:yuXy:=@z33z_ NN
def ymry (g:yuXy):Spec A:=fun args=>match args with | [.box [.arr 35 a1,.arr 33 a2,.arr 9 a3,.arr 3 a4,.mp 67 4 a5]]=>fun k=>g a1 a2 a3 a4 a5 (fun z0 z1 z2 z3 z4 z5=>k (.mp 3 3 z0) [.box [.arr 35 z1,.arr 33 z2,.arr 9 z3,.arr 3 z4,.mp 67 4 z5]]) | _=>fun _=>none
def ykay:SSt:=mkSh 26 12 [(0,.ptr 0 0),(3,.mp 6),(10,.own 33 8),(11,.int .i64),(12,.int .i64)] [(0,.box [.own 35 7,.own 33 8,.own 9 9,.own 3 10,.mp 5]),(5,.mp 67 4),(6,.mp 3 3),(7,.row 35),(8,.row 33),(9,.row 9),(10,.row 3)]
def yeyy (g:Nat) (n:Nat):LPT A:=fun ps=>match ps with | [.d (.int .i64 p1),.d (.int .i64 p2),.mp 67 4 p3,.mp 3 3 p4,.d (.sl 35 p5),.d (.sl 33 p6),.d (.sl 9 p7),.d (.sl 3 p8)]=>fun K=>z33z_L3 g n p1 p2 p3 p4 p5 p6 p7 p8 (fun z0 z1 z2 z3 z4 z5=>K (.exit 0) (mkSt 26 12 [(0,.ptr 0 0),(3,.mp 6)] [(0,some (.box [.own 35 7,.own 33 8,.own 9 9,.own 3 10,.mp 5])),(5,some (.mp 67 4 z0)),(6,some (.mp 3 3 z1)),(7,some (.row 35 z2)),(8,some (.row 33 z3)),(9,some (.row 9 z4)),(10,some (.row 3 z5))])) | _=>fun _=>none
noncomputable def ypuy (g:Nat):Env A:=mkE [] [(5,[11]),(6,[6])] [(3,⟨[0,3,10,11,12],[],[0,5,6],[(0,0,35,7),(0,1,33,8),(0,2,9,9),(0,3,3,10)],[],[],[]⟩)] [(3,⟨[0,3],[],[0,5,6,7,8,9,10],[],[],[],[]⟩)] [(3,yaiy ykay (yeyy g g))] [] [] [] [] [0]
theorem yHhy [Fuel]:yajy (ypuy NN).C:=ct_of (P:=Tryz.prog) (T:=T) .nil (by kernel_rfl)
noncomputable def yogy:Code:=sub [1,1,0,1,0,0] yjBy
theorem yBly (g:Nat) (n:Nat):yamy (ypuy g) g yogy ykay (yeyy g) n:=by intro ps; unfold yeyy; split; exact .inr fun R K=>(by kernel_rfl); exact .inl fun R K=>rfl
theorem yzdy [Fuel]:yagy (ypuy NN) NN yogy:=yaky ykay (yeyy NN) (by kernel_rfl) yHhy (cuts0 (fun _=>rfl) (by kernel_rfl)) (fun ps R K=>by unfold yeyy; split <;> (try unfold z33z_L3) <;> rfl) (yBly NN)
theorem yHKy (g:Nat):Same (ymry (@z33z_ g)) (abody (ypuy g) Tryz.f125 yjBy 12 [0,1,2,3,4,5] [.asis] g):=by intro args; unfold ymry; split; exact .inr fun R k=>(by kernel_rfl); exact .inl fun R k=>rfl
theorem yxry [Fuel]:Ok 125 (ymry (@z33z _)):=yacy std .nil ⟨rfl,rfl,by kernel_rfl,rfl,rfl,rfl⟩ (yHKy NN) (cutsL (fun _=>rfl) (.cons yzdy .nil) (by kernel_rfl)) Tryz.func125 (by kernel_rfl) (by kernel_rfl)
abbrev T_z7z:Type 1:=List G_Deed→List G_Contact→List (List UInt8)→List Int→List (G_net_own×Bool)→{R:Type}→(List (Int×Int)→List G_Deed→List G_Contact→List (List UInt8)→List Int→List (G_net_own×Bool)→Option R)→Option R
noncomputable def z7z_L3 (g:Nat):Nat→List (G_net_own×Bool)→List (G_net_own×Bool)→List (Int×Int)→List G_Deed→List G_Contact→List (List UInt8)→List Int→{R:Type}→(List (G_net_own×Bool)→List (Int×Int)→List G_Deed→List G_Contact→List (List UInt8)→List Int→Option R)→Option R
 | 0,_,_,_,_,_,_,_,_,_=>none
 | n + 1,m11,l12,v6,v7,v8,v9,v10,_,e0=>(ydjy l12 (e0 m11 v6 v7 v8 v9 v10) fun x15 l16=>z7z_L3 g n m11 l16 (ycYy x15.1.f_no (w64 (((ybQy x15.1.f_no v6).getD 0) + 1)) v6) v7 v8 v9 v10 e0)
noncomputable def yixy (g:Nat) (a1:List G_Deed) (a2:List G_Contact) (a3:List (List UInt8)) (a4:List Int) (a5:List (G_net_own×Bool)) {R:Type} (k0:List (Int×Int)→List G_Deed→List G_Contact→List (List UInt8)→List Int→List (G_net_own×Bool)→Option R):Option R :=
 (z7z_L3 g g a5 a5 [] a1 a2 a3 a4 (fun e17 e18 e19 e20 e21 e22=>k0 e18 e19 e20 e21 e22 e17))
def ynYy (p:IV A×List (IV A)):Option ((List (Int×Int))×(List G_Deed)×(List G_Contact)×(List (List UInt8))×(List Int)×(List (G_net_own×Bool))):=match p with | (.mp 3 3 b1,[.box [.arr 35 b2,.arr 33 b3,.arr 9 b4,.arr 3 b5,.mp 67 4 b6]])=>some (b1,b2,b3,b4,b5,b6) | _=>none
def yfly (q:(List (Int×Int))×(List G_Deed)×(List G_Contact)×(List (List UInt8))×(List Int)×(List (G_net_own×Bool))):IV A×List (IV A):=(.mp 3 3 q.1,[.box [.arr 35 q.2.1,.arr 33 q.2.2.1,.arr 9 q.2.2.2.1,.arr 3 q.2.2.2.2.1,.mp 67 4 q.2.2.2.2.2]])
theorem yEty (p:IV A×List (IV A)) (q:(List (Int×Int))×(List G_Deed)×(List G_Contact)×(List (List UInt8))×(List Int)×(List (G_net_own×Bool))) (h:ynYy p = some q):p = yfly q:=by unfold ynYy at h; split at h; (cases h; rfl); cases h
noncomputable def z7z_ (g:Nat) (a1:List G_Deed) (a2:List G_Contact) (a3:List (List UInt8)) (a4:List Int) (a5:List (G_net_own×Bool)) {R:Type} (k0:List (Int×Int)→List G_Deed→List G_Contact→List (List UInt8)→List Int→List (G_net_own×Bool)→Option R):Option R :=
 (yixy g a1 a2 a3 a4 a5 (fun z0 z1 z2 z3 z4 z5=>some (yfly (z0,z1,z2,z3,z4,z5)))).bind fun p=>(decK ynYy p (fun q=>k0 q.1 q.2.1 q.2.2.1 q.2.2.2.1 q.2.2.2.2.1 q.2.2.2.2.2) none)
noncomputable def z7z [Fuel]:T_z7z:=@z7z_ NN
def yeXy (g:T_z7z):Spec A:=fun args=>match args with | [.box [.arr 35 a1,.arr 33 a2,.arr 9 a3,.arr 3 a4,.mp 67 4 a5]]=>fun k=>g a1 a2 a3 a4 a5 (fun z0 z1 z2 z3 z4 z5=>k (.mp 3 3 z0) [.box [.arr 35 z1,.arr 33 z2,.arr 9 z3,.arr 3 z4,.mp 67 4 z5]]) | _=>fun _=>none
def yk6y:SSt:=mkSh 21 12 [(0,.ptr 0 0),(3,.mp 6),(9,.mp 5)] [(0,.box [.own 35 7,.own 33 8,.own 9 9,.own 3 10,.mp 5]),(5,.gone (2,0)),(6,.mp 3 3),(7,.row 35),(8,.row 33),(9,.row 9),(10,.row 3)]
noncomputable def yf1y (g:Nat) (n:Nat) (m l:List (A 67×A 4)):LPT A:=fun ps=>match ps with | [.mp 3 3 p1,.d (.sl 35 p2),.d (.sl 33 p3),.d (.sl 9 p4),.d (.sl 3 p5)]=>fun K=>z7z_L3 g n m l p1 p2 p3 p4 p5 (fun z0 z1 z2 z3 z4 z5=>K .normal (mkSt 21 12 [(0,.ptr 0 0),(3,.mp 6)] [(0,some (.box [.own 35 7,.own 33 8,.own 9 9,.own 3 10,.mp 5])),(5,some (.mp 67 4 z0)),(6,some (.mp 3 3 z1)),(7,some (.row 35 z2)),(8,some (.row 33 z3)),(9,some (.row 9 z4)),(10,some (.row 3 z5))])) | _=>fun _=>none
noncomputable def ynQy:Code:=(Tryz.f126.body).getD .skip
noncomputable def E_z7z (g:Nat):Env A:=mkE [] [(4,[11]),(5,[6])] [(3,⟨[0,3,9],[],[0,5,6],[(0,0,35,7),(0,1,33,8),(0,2,9,9),(0,3,3,10)],[],[],[]⟩)] [(3,⟨[0,3],[],[0,5,6,7,8,9,10],[],[],[],[]⟩)] [] [] [] [] [] [0]
noncomputable def yAcy (g:Nat):Nat→Option (ybry A):=fun i=>List.lookup i [(3,ycyy 5 67 4 yk6y (yf1y g g))]
theorem ct_z7z [Fuel]:yajy (E_z7z NN).C:=ct_of (P:=Tryz.prog) (T:=T) .nil (by kernel_rfl)
noncomputable def yrAy:RangeP:=(yday (sub [1,1,0,0] ynQy) (sub [1,1,0,1] ynQy)).get (by kernel_rfl)
theorem yC1y (g:Nat) (n:Nat):ywEy (E_z7z g) g yrAy 5 67 4 yk6y (yf1y g) n:=by intro m l ps; unfold yf1y; split; exact .inr fun R K=>(by kernel_rfl); exact .inl fun R K=>rfl
theorem yBYy [Fuel]:ROk (E_z7z NN) (yAcy NN) NN yrAy:=yy1y yk6y (yf1y NN) (by kernel_rfl) (cuts0 (fun _=>rfl) (by kernel_rfl)) (fun m l ps R K=>by unfold yf1y; split <;> (try unfold z7z_L3) <;> rfl) (yC1y NN)
theorem yH4y (g:Nat):Same (yeXy (@yixy g)) (ylky (E_z7z g) (yAcy g) Tryz.f126 ynQy 12 [0,1,2,3,4,5] [.asis] g):=by intro args; unfold yeXy; split; exact .inr fun R k=>(by kernel_rfl); exact .inl fun R k=>rfl
theorem yIay (g:Nat):Whole (yeXy (@z7z_ g)) (yeXy (@yixy g)):=by
 intro args R k res h
 unfold yeXy at h
 split at h
 ·obtain ⟨p,hp,h⟩:=Option.bind_eq_some_iff.1 h
  exact ⟨p,hp,(yxey (inj:=yfly) yEty (fun h=>(by cases h)) h)⟩
 ·cases h
theorem yIHy (g:Nat):yaNy (yeXy (@z7z_ g)):=by
 intro args R k
 unfold yeXy
 split
 ·unfold z7z_
  rw [Option.bind_assoc]
  exact congrArg (Option.bind _) (funext fun p=>(yw7y (inj:=yfly) rfl))
 ·rfl
theorem yBzy [Fuel]:Ok 126 (yeXy (@z7z _)):=yIky std .nil ⟨rfl,rfl,by kernel_rfl,rfl,rfl,rfl⟩ (yH4y NN) (yIay NN) (yIHy NN) (cutsR (fun _=>rfl) .nil (.cons yBYy .nil) (by kernel_rfl) (by kernel_rfl)) Tryz.func126 (by kernel_rfl) (by kernel_rfl)
abbrev yt2y:Type 1:=List G_Deed→List G_Contact→List (List UInt8)→List Int→List (G_net_own×Bool)→{R:Type}→(Int→Int→List G_Deed→List G_Contact→List (List UInt8)→List Int→List (G_net_own×Bool)→Option R)→Option R
structure C_z15z where
 N:Nat
 z33z:yuXy
 z7z:T_z7z
def z15z_L3 (g:C_z15z):Nat→Int→List (Int×Int)→List (G_net_own×Bool)→List (Int×Int)→List G_Deed→List G_Contact→List (List UInt8)→List Int→{R:Type}→(Int→Int→List (G_net_own×Bool)→List G_Deed→List G_Contact→List (List UInt8)→List Int→Option R)→(List (G_net_own×Bool)→List G_Deed→List G_Contact→List (List UInt8)→List Int→Option R)→Option R
 | 0,_,_,_,_,_,_,_,_,_,_,_=>none
 | n + 1,v18,v19,v20,v21,v22,v23,v24,v25,_,e0,e1=>(bif (decide (v18≤99999)) then (bif (((ybQy v18 v19).getD 0) == 0) then (bif (((ybQy v18 v21).getD 0) == 0) then e0 v18 0 v20 v22 v23 v24 v25 else z15z_L3 g n (w64 (v18 + 1)) v19 v20 v21 v22 v23 v24 v25 e0 e1) else z15z_L3 g n (w64 (v18 + 1)) v19 v20 v21 v22 v23 v24 v25 e0 e1) else e1 v20 v22 v23 v24 v25)
def z15z_ (g:C_z15z) (a1:List G_Deed) (a2:List G_Contact) (a3:List (List UInt8)) (a4:List Int) (a5:List (G_net_own×Bool)) {R:Type} (k0:Int→Int→List G_Deed→List G_Contact→List (List UInt8)→List Int→List (G_net_own×Bool)→Option R):Option R :=
 (g.z33z a1 a2 a3 a4 a5 (fun r6 r7 r8 r9 r10 r11=>(g.z7z r7 r8 r9 r10 r11 (fun r12 r13 r14 r15 r16 r17=>(z15z_L3 g g.N 1 r6 r17 r12 r13 r14 r15 r16 (fun e26 e27 e28 e29 e30 e31 e32=>k0 e26 e27 e29 e30 e31 e32 e28) (fun e33 e34 e35 e36 e37=>k0 0 12 e34 e35 e36 e37 e33))))))
noncomputable def ydty [Fuel]:C_z15z:=⟨NN,@z33z _,@z7z _⟩
noncomputable def z15z [Fuel]:yt2y:=@z15z_ ydty
def yA3y (args:List (IV A)):Bool:=match args with | [.box [.arr 35 _,.arr 33 _,.arr 9 _,.arr 3 _,.mp 67 4 _]]=>true | _=>false
def ylGy (g:yt2y):Spec A:=fun args=>match args with | [.box [.arr 35 a1,.arr 33 a2,.arr 9 a3,.arr 3 a4,.mp 67 4 a5]]=>fun k=>g a1 a2 a3 a4 a5 (fun z0 z1 z2 z3 z4 z5 z6=>k (.tup [.d (.int .i64 z0),.d (.int .i64 z1)]) [.box [.arr 35 z2,.arr 33 z3,.arr 9 z4,.arr 3 z5,.mp 67 4 z6]]) | _=>fun _=>none
def yjPy:SSt:=mkSh 26 22 [(0,.ptr 0 0),(4,.mp 11),(5,.mp 17),(6,.int .i64)] [(0,.box [.own 35 18,.own 33 19,.own 9 20,.own 3 21,.mp 16]),(11,.mp 3 3),(16,.mp 67 4),(17,.mp 3 3),(18,.row 35),(19,.row 33),(20,.row 9),(21,.row 3)]
def yesy (g:C_z15z) (n:Nat):LPT A:=fun ps=>match ps with | [.d (.int .i64 p1),.mp 3 3 p2,.mp 67 4 p3,.mp 3 3 p4,.d (.sl 35 p5),.d (.sl 33 p6),.d (.sl 9 p7),.d (.sl 3 p8)]=>fun K=>z15z_L3 g n p1 p2 p3 p4 p5 p6 p7 p8 (fun z0 z1 z2 z3 z4 z5 z6=>K .ret (mkSt 26 22 [(0,.ptr 0 0),(2,.d (.int .i64 z0)),(3,.d (.int .i64 z1))] [(0,some (.box [.own 35 18,.own 33 19,.own 9 20,.own 3 21,.mp 16])),(16,some (.mp 67 4 z2)),(18,some (.row 35 z3)),(19,some (.row 33 z4)),(20,some (.row 9 z5)),(21,some (.row 3 z6))])) (fun z0 z1 z2 z3 z4=>K (.exit 0) (mkSt 26 22 [(0,.ptr 0 0)] [(0,some (.box [.own 35 18,.own 33 19,.own 9 20,.own 3 21,.mp 16])),(16,some (.mp 67 4 z0)),(18,some (.row 35 z1)),(19,some (.row 33 z2)),(20,some (.row 9 z3)),(21,some (.row 3 z4))])) | _=>fun _=>none
noncomputable def yoHy (g:C_z15z):Env A:=mkE [(125,ymry g.z33z),(126,yeXy g.z7z)] [(8,[6,7,8,9,10,11]),(10,[12,13,14,15,16,17])] [(3,⟨[0,4,5,6],[],[0,11,16,17],[(0,0,35,18),(0,1,33,19),(0,2,9,20),(0,3,3,21)],[],[],[]⟩)] [(3,⟨[0,2,3],[],[0,16,18,19,20,21],[],[],[],[]⟩)] [(3,yaiy yjPy (yesy g g.N))] [] [] [] [] [0]
theorem yE9y [Fuel]:yajy (yoHy ydty).C:=ct_of (P:=Tryz.prog) (T:=T) (.cons yxry (.cons yBzy .nil)) (by kernel_rfl)
noncomputable def yowy:Code:=sub [1,1,0,1,0,0] ylHy
theorem yAOy (g:C_z15z) (n:Nat):yamy (yoHy g) g.N yowy yjPy (yesy g) n:=by intro ps; unfold yesy; split; exact .inr fun R K=>(by kernel_rfl); exact .inl fun R K=>rfl
theorem yyZy [Fuel]:yagy (yoHy ydty) NN yowy:=yaky yjPy (yesy ydty) (by kernel_rfl) yE9y (cuts0 (fun _=>rfl) (by kernel_rfl)) (fun ps R K=>by unfold yesy; split <;> (try unfold z15z_L3) <;> rfl) (yAOy ydty)
theorem yHmy (g:C_z15z):Same (ylGy (@z15z_ g)) (abody (yoHy g) Tryz.f83 ylHy 22 [0,1,2,3,4,5] [.asis,.asis] g.N):=by intro args; unfold ylGy; split; exact .inr fun R k=>(by kernel_rfl); exact .inl fun R k=>rfl
theorem yEZy [Fuel]:Ok 83 (ylGy (@z15z _)):=yacy std (.cons yxry (.cons yBzy .nil)) ⟨rfl,rfl,by kernel_rfl,rfl,rfl,rfl⟩ (yHmy ydty) (cutsL (fun _=>rfl) (.cons yyZy .nil) (by kernel_rfl)) Tryz.func83 (by kernel_rfl) (by kernel_rfl)
abbrev ykby:Type 1:=List G_Deed→Int→{R:Type}→(Int→Int→Option R)→Option R
structure C_net_Next where
 N:Nat
 z51z:yley
 z15z:yt2y
 z65z:ysZy
def ylvy (g:C_net_Next) (a1:List G_Deed) (a2:Int) {R:Type} (k0:Int→Int→Option R):Option R :=
 (g.z51z a1 a2 (fun r3=>(bif (r3 != 0) then k0 0 r3 else (g.z65z))) (fun r4 r5 r6 r7 r8 r9=>(bif (r9 != 0) then k0 0 r9 else (g.z15z r4 r5 r6 r7 r8 (fun r10 r11 r12 r13 r14 r15 r16=>k0 r10 r11)))))
noncomputable def ygHy [Fuel]:C_net_Next:=⟨NN,@z51z _,@z15z _,@z65z _⟩
noncomputable def net_Next [Fuel]:ykby:=@ylvy ygHy
def yfUy (g:ykby):Spec A:=fun args=>match args with | [.d (.sl 35 a1),.d (.int .i64 a2)]=>fun k=>g a1 a2 (fun z0 z1=>k (.tup [.d (.int .i64 z0),.d (.int .i64 z1)]) [.undef,.undef]) | _=>fun _=>none
noncomputable def yEVy:Code:=(Tryz.f41.body).getD .skip
noncomputable def yyky (g:C_net_Next):Env A:=mkE [(35,ygSy g.z51z),(83,orS yA3y (ylGy g.z15z) (ymty g.z65z))] [(11,[0,1,2,3,4,5]),(18,[6,7,8,9,10])] [] [] [] [] [] [] [] []
theorem ywjy (g:C_net_Next):Same (yfUy (@ylvy g)) (abody (yyky g) Tryz.f41 yEVy 11 [] [.asis,.asis] g.N):=by intro args; unfold yfUy; split; exact .inr fun R k=>(by kernel_rfl); exact .inl fun R k=>rfl
theorem ywuy [Fuel]:Ok 41 (yfUy (@net_Next _)):=yacy std (.cons yqxy (.cons (ok_or yA3y yEZy yGBy) .nil)) ⟨rfl,rfl,by kernel_rfl,rfl,rfl,rfl⟩ (ywjy ygHy) (cuts0 (fun _=>rfl) (by kernel_rfl)) Tryz.func41 (by kernel_rfl) (by kernel_rfl)
abbrev yh1y:Type 1:=List Int→{R:Type}→(Int→Option R)→Option R
def yeYy (g:Nat):Nat→List Int→Int→Int→{R:Type}→(Int→Option R)→Option R→Option R
 | 0,_,_,_,_,_,_=>none
 | n + 1,v2,v3,v4,_,e0,e1=>(bif (decide (v4 < v3)) then (get_ v2 v4 fun x6=>(bif (x6 != 0) then e0 x6 else yeYy g n v2 v3 (w64 (v4 + 1)) e0 e1)) else e1)
def ypMy (g:Nat) (a1:List Int) {R:Type} (k0:Int→Option R):Option R :=
 (yeYy g g a1 (a1.length:Int) 0 (fun e7=>k0 e7) (k0 0))
noncomputable def keep_errs [Fuel]:yh1y:=@ypMy NN
def yeDy (g:yh1y):Spec A:=fun args=>match args with | [.d (.sl 28 a1)]=>fun k=>g a1 (fun z0=>k (.d (.int .i64 z0)) [.undef]) | _=>fun _=>none
def yeVy:SSt:=mkSh 15 0 [(5,.sl 28),(6,.int .i64),(7,.int .i64)] []
def yb3y (g:Nat) (n:Nat):LPT A:=fun ps=>match ps with | [.d (.sl 28 p1),.d (.int .i64 p2),.d (.int .i64 p3)]=>fun K=>yeYy g n p1 p2 p3 (fun z0=>K .ret (mkSt 15 0 [(2,.d (.int .i64 z0))] [])) (K (.exit 0) (mkSt 15 0 [] [])) | _=>fun _=>none
noncomputable def yxCy:Code:=(Tryz.f42.body).getD .skip
noncomputable def yfMy (g:Nat):Env A:=mkE [] [] [(2,⟨[5,6,7],[],[],[],[],[],[]⟩)] [(2,⟨[2],[],[],[],[],[],[]⟩)] [(2,yaiy yeVy (yb3y g g))] [] [] [] [] []
theorem yusy [Fuel]:yajy (yfMy NN).C:=ct_of (P:=Tryz.prog) (T:=T) .nil (by kernel_rfl)
noncomputable def yhDy:Code:=sub [1,0,1,0,0] yxCy
theorem yqky (g:Nat) (n:Nat):yamy (yfMy g) g yhDy yeVy (yb3y g) n:=by intro ps; unfold yb3y; split; exact .inr fun R K=>(by kernel_rfl); exact .inl fun R K=>rfl
theorem yppy [Fuel]:yagy (yfMy NN) NN yhDy:=yaky yeVy (yb3y NN) (by kernel_rfl) yusy (cuts0 (fun _=>rfl) (by kernel_rfl)) (fun ps R K=>by unfold yb3y; split <;> (try unfold yeYy) <;> rfl) (yqky NN)
theorem ytJy (g:Nat):Same (yeDy (@ypMy g)) (abody (yfMy g) Tryz.f42 yxCy 0 [] [.asis] g):=by intro args; unfold yeDy; split; exact .inr fun R k=>(by kernel_rfl); exact .inl fun R k=>rfl
theorem yuTy [Fuel]:Ok 42 (yeDy (@keep_errs _)):=yacy std .nil ⟨rfl,rfl,by kernel_rfl,rfl,rfl,rfl⟩ (ytJy NN) (cutsL (fun _=>rfl) (.cons yppy .nil) (by kernel_rfl)) Tryz.func42 (by kernel_rfl) (by kernel_rfl)
abbrev yhjy:Type 1:={R:Type}→(Bool→Option R)→Option R
structure C_keep_ready where
 N:Nat
 log_Dupes:yidy
 band_May:yjyy
 club_Table:yhry
 net_Next:ykby
 keep_errs:yh1y
def ymVy (g:C_keep_ready)  {R:Type} (k0:Bool→Option R):Option R :=
 (g.log_Dupes [(⟨0,1,[98],[107,49,97,98],0,0,[],[]⟩:G_Contact),(⟨5,1,[98],[107,49,97,98],0,0,[],[]⟩:G_Contact)] (fun r1 r2=>(g.band_May [(⟨[99],5,8,[1],(⟨0,9⟩:G_Window)⟩:G_Segment)] [99] 6 3 1 0 (fun r3 r4=>(g.club_Table [(⟨[107,49,97,98],[99],5,[]⟩:G_Entrant)] [99] (fun r5 r6=>(g.net_Next [(⟨[97],1,0,3,(⟨0,0,[],[],1,0,[],[]⟩:G_Contact),[],[],0⟩:G_Deed)] 0 (fun r7 r8=>(g.keep_errs [r2,r4,r6,r8] (fun r9=>(bif (r9 == 0) then (bif ((r1.length:Int) == 1) then (bif r3 then (bif ((r5.length:Int) == 1) then k0 (r7 == 2) else k0 false) else k0 false) else k0 false) else k0 false)))))))))))
noncomputable def yaXy [Fuel]:C_keep_ready:=⟨NN,@log_Dupes _,@band_May _,@club_Table _,@net_Next _,@keep_errs _⟩
noncomputable def keep_ready [Fuel]:yhjy:=@ymVy yaXy
def ydKy (g:yhjy):Spec A:=fun args=>match args with | []=>fun k=>g (fun z0=>k (.d (.bool z0)) []) | _=>fun _=>none
noncomputable def yHDy:Code:=(Tryz.f15.body).getD .skip
noncomputable def yvhy (g:C_keep_ready):Env A:=mkE [(38,yeUy g.log_Dupes),(39,yfNy g.band_May),(40,ydHy g.club_Table),(41,yfUy g.net_Next),(42,yeDy g.keep_errs)] [(1,[0]),(2,[1]),(17,[2]),(18,[3]),(22,[4]),(25,[5]),(31,[6]),(32,[7]),(38,[8]),(46,[9])] [] [] [] [] [] [] [] []
theorem yrZy (g:C_keep_ready):Same (ydKy (@ymVy g)) (abody (yvhy g) Tryz.f15 yHDy 10 [] [.asis] g.N):=by intro args; unfold ydKy; split; exact .inr fun R k=>(by kernel_rfl); exact .inl fun R k=>rfl
theorem yr5y [Fuel]:Ok 15 (ydKy (@keep_ready _)):=yacy std (.cons ytEy (.cons ywgy (.cons yr9y (.cons ywuy (.cons yuTy .nil))))) ⟨rfl,rfl,by kernel_rfl,rfl,rfl,rfl⟩ (yrZy yaXy) (cuts0 (fun _=>rfl) (by kernel_rfl)) Tryz.func15 (by kernel_rfl) (by kernel_rfl)
abbrev yhEy:Type 1:=List Int→{R:Type}→(Bool→Option R)→Option R
structure C_keep_NetsStay where
 N:Nat
 z27z:ytqy
 z26z:yuvy
 z46z:yvdy
 net_Log:ylgy
 z39z:yvry
 z52z:yszy
 net_Desks:yhZy
 z49z:ysUy
 net_Write:yicy
 z40z:ytAy
 keep_ready:yhjy
def ydiy (g:C_keep_NetsStay) (a1:List Int) {R:Type} (k0:Bool→Option R):Option R :=
 (g.z27z (⟨a1,0⟩:G_Stream) 12 (fun r2 r3=>(g.z27z (⟨a1,0⟩:G_Stream) 12 (fun r4 r5=>(g.z26z r2 (fun r6 r7=>(g.z46z r6 (fun r8=>(g.net_Log r2 60 (fun r9 r10 r11=>(g.z39z r9 (fun r12=>(g.z52z r10 (fun r13=>(g.net_Desks r2 60 (fun r14 r15=>(g.z49z r14 (fun r16=>(g.net_Write r2 (⟨[122,122],0,500,2,(⟨0,0,[],[],0,0,[],[]⟩:G_Contact),[98,50,48],[],0⟩:G_Deed) (fun r17 r18=>(g.z46z r17 (fun r19=>(g.z40z r2 r4 (fun r20=>(bif r20 then (g.keep_ready (fun r21=>k0 r21)) else k0 false)))))))))))))))))))))))))
noncomputable def yaxy [Fuel]:C_keep_NetsStay:=⟨NN,@z27z _,@z26z _,@z46z _,@net_Log _,@z39z _,@z52z _,@net_Desks _,@z49z _,@net_Write _,@z40z _,@keep_ready _⟩
noncomputable def keep_NetsStay [Fuel]:yhEy:=@ydiy yaxy
def SS_keep_NetsStay (g:yhEy):Spec A:=fun args=>match args with | [.d (.sl 3 a1)]=>fun k=>g a1 (fun z0=>k (.d (.bool z0)) [.undef]) | _=>fun _=>none
noncomputable def yIJy:Code:=(Tryz.f3.body).getD .skip
noncomputable def ypjy (g:C_keep_NetsStay):Env A:=mkE [(5,ymvy g.z27z),(6,yl6y g.z26z),(7,ylIy g.z46z),(8,ygIy g.net_Log),(9,ylTy g.z39z),(10,ylSy g.z52z),(11,yePy g.net_Desks),(12,ymFy g.z49z),(13,ye9y g.net_Write),(14,ymAy g.z40z),(15,ydKy g.keep_ready)] [(18,[0]),(21,[1]),(23,[2]),(25,[3]),(28,[4]),(35,[5,6]),(45,[7]),(53,[8])] [] [] [] [] [] [] [(7,0),(9,0),(10,0),(12,0)] []
theorem ynUy (g:C_keep_NetsStay):Same (SS_keep_NetsStay (@ydiy g)) (abody (ypjy g) Tryz.f3 yIJy 9 [] [.asis] g.N):=by intro args; unfold SS_keep_NetsStay; split; exact .inr fun R k=>(by kernel_rfl); exact .inl fun R k=>rfl
theorem ok_keep_NetsStay [Fuel]:Ok 3 (SS_keep_NetsStay (@keep_NetsStay _)):=yacy std (.cons yFGy (.cons yEqy (.cons yEWy (.cons yzBy (.cons yEny (.cons yEDy (.cons yvsy (.cons yGHy (.cons yujy (.cons yETy (.cons yr5y .nil))))))))))) ⟨rfl,rfl,by kernel_rfl,rfl,rfl,rfl⟩ (ynUy yaxy) (cuts0 (fun _=>rfl) (by kernel_rfl)) Tryz.func3 (by kernel_rfl) (by kernel_rfl)
end Go.Am
