/- The functions of the program as Lean functions, each shown to be what the code computes, part 6. No condition: lemmas for the claim. -/
import Derived.Test.YtmhbhdhddlbdlaaGreatDoorF0
import Derived.Test.YtmhbhdhddlbdlaaGreatDoorFSh
import Derived.Test.YtmhbhdhddlbdlaaGreatDoorF5
set_option linter.unusedVariables false
set_option maxRecDepth 100000
namespace Go.Am
open Go Go.Proofs
abbrev yxBy:Type 1:=List (List G_Deed)→{R:Type}→(List G_Deed→Option R)→Option R
structure C_z11z where
 N:Nat
 z75z:ywgy
def z11z_L3 (g:C_z11z):Nat→List (List G_Deed)→Int→List (List G_Deed)→Int→Int→{R:Type}→(List (List G_Deed)→Int→Option R)→Option R
 | 0,_,_,_,_,_,_,_=>none
 | n + 1,v2,v3,v4,v5,v6,_,e0=>(bif (decide (v6 < v5)) then (get_ v4 v6 fun x8=>(bif (decide ((w64 (v3 + (x8.length:Int))) < 0)) then none else z11z_L3 g n v2 (w64 (v3 + (x8.length:Int))) v4 v5 (w64 (v6 + 1)) e0)) else e0 v2 v3)
def z11z_L11 (g:C_z11z):Nat→List (List G_Deed)→Int→Int→List G_Deed→{R:Type}→(List G_Deed→Option R)→Option R
 | 0,_,_,_,_,_,_=>none
 | n + 1,v12,v13,v14,v15,_,e0=>(bif (decide (v14 < v13)) then (get_ v12 v14 fun x17=>(bif (decide ((v15.length + x17.length) * 176≤yady)) then z11z_L11 g n v12 v13 (w64 (v14 + 1)) (v15++x17) e0 else none)) else e0 v15)
def z11z_ (g:C_z11z) (a1:List (List G_Deed)) {R:Type} (k0:List G_Deed→Option R):Option R :=
 (z11z_L3 g g.N a1 0 a1 (a1.length:Int) 0 (fun e9 e10=>(g.z75z e10 (fun r11=>(z11z_L11 g g.N e9 (e9.length:Int) 0 r11 (fun e18=>k0 e18))))))
noncomputable def yeuy [Fuel]:C_z11z:=⟨NN,@z75z _⟩
noncomputable def z11z [Fuel]:yxBy:=@z11z_ yeuy
def yoWy (g:yxBy):Spec A:=fun args=>match args with | [.d (.sl 44 a1)]=>fun k=>g a1 (fun z0=>k (.arr 51 z0) [.undef]) | _=>fun _=>none
def ymcy:SSt:=mkSh 36 3 [(0,.sl 44),(3,.int .i64),(9,.sl 44),(10,.int .i64),(11,.int .i64)] []
def yf4y (g:C_z11z) (n:Nat):LPT A:=fun ps=>match ps with | [.d (.sl 44 p1),.d (.int .i64 p2),.d (.sl 44 p3),.d (.int .i64 p4),.d (.int .i64 p5)]=>fun K=>z11z_L3 g n p1 p2 p3 p4 p5 (fun z0 z1=>K (.exit 0) (mkSt 36 3 [(0,.d (.sl 44 z0)),(3,.d (.int .i64 z1))] [])) | _=>fun _=>none
def yjGy:SSt:=mkSh 36 3 [(6,.own 51 1),(25,.sl 44),(26,.int .i64),(27,.int .i64)] [(1,.row 51)]
def yeny (g:C_z11z) (n:Nat):LPT A:=fun ps=>match ps with | [.d (.sl 44 p1),.d (.int .i64 p2),.d (.int .i64 p3),.d (.sl 51 p4)]=>fun K=>z11z_L11 g n p1 p2 p3 p4 (fun z0=>K (.exit 2) (mkSt 36 3 [(6,.own 51 1)] [(1,some (.row 51 z0))])) | _=>fun _=>none
noncomputable def ytoy:Code:=(Tryz.f44.body).getD .skip
noncomputable def ylfy (g:C_z11z):Env A:=mkE [(98,ykjy g.z75z)] [(24,[0]),(33,[2])] [(3,⟨[0,3,9,10,11],[],[],[],[],[],[]⟩),(11,⟨[6,25,26,27],[(6,51,1)],[],[],[],[],[]⟩)] [(3,⟨[0,3],[],[],[],[],[],[]⟩),(11,⟨[6],[],[1],[],[],[],[]⟩)] [(3,yajy ymcy (yf4y g g.N)),(11,yajy yjGy (yeny g g.N))] [] [] [] [(98,0)] []
theorem yAHy [Fuel]:yaky (ylfy yeuy).C:=ct_of (P:=Tryz.prog) (T:=T) (.cons yAUy .nil) (by kernel_rfl)
noncomputable def yrMy:Code:=sub [1,1,0,1,0,0] ytoy
theorem yEmy (g:C_z11z) (n:Nat):yaoy (ylfy g) g.N yrMy ymcy (yf4y g) n:=by intro ps;unfold yf4y;split;exact .inr fun R K=>(by kernel_rfl);exact .inl fun R K=>rfl
theorem yCby [Fuel]:yagy (ylfy yeuy) NN yrMy:=yaly ymcy (yf4y yeuy) (by kernel_rfl) yAHy (cuts0 (fun _=>rfl) (by kernel_rfl)) (fun ps R K=>by unfold yf4y;split <;> (try unfold z11z_L3) <;> rfl) (yEmy yeuy)
noncomputable def ypOy:Code:=sub [1,1,1,1,0,1,0,0] ytoy
theorem yCdy (g:C_z11z) (n:Nat):yaoy (ylfy g) g.N ypOy yjGy (yeny g) n:=by intro ps;unfold yeny;split;exact .inr fun R K=>(by kernel_rfl);exact .inl fun R K=>rfl
theorem yzwy [Fuel]:yagy (ylfy yeuy) NN ypOy:=yaly yjGy (yeny yeuy) (by kernel_rfl) yAHy (cuts0 (fun _=>rfl) (by kernel_rfl)) (fun ps R K=>by unfold yeny;split <;> (try unfold z11z_L11) <;> rfl) (yCdy yeuy)
theorem yKIy (g:C_z11z):Same (yoWy (@z11z_ g)) (abody (ylfy g) Tryz.f44 ytoy 3 [] [.arr 51] g.N):=by intro args;unfold yoWy;split;exact .inr fun R k=>(by kernel_rfl);exact .inl fun R k=>rfl
theorem yBUy [Fuel]:Ok 44 (yoWy (@z11z _)):=yacy std (.cons yAUy .nil) ⟨rfl,rfl,by kernel_rfl,rfl,rfl,rfl⟩ (yKIy yeuy) (cutsL (fun _=>rfl) (.cons yCby (.cons yzwy .nil)) (by kernel_rfl)) Tryz.func44 (by kernel_rfl) (by kernel_rfl)
abbrev yxOy:Type 1:=List G_Deed→{R:Type}→(List G_Deed→Option R)→Option R
noncomputable def z41z [Fuel]:yxOy:=@ybOy G_Deed (@z43z _)
def ykfy (g:yxOy):Spec A:=fun args=>match args with | [.arr 51 a1,.fn 46 []]=>fun k=>g a1 (fun z=>k (.tup []) [.arr 51 z,.fn 46 []]) | _=>fun _=>none
theorem yBCy [Fuel] (xs:List (A 51)) (R:Type) (k:IV A→List (IV A)→Option R):ykfy (@z41z _) [.arr 51 xs,.fn 46 []] k = ybOy (α:=A 51) (@z43z _) xs (fun z=>k (.tup []) [.arr 51 z,.fn 46 []]):=by kernel_rfl
theorem yATy [Fuel] (args:List (IV A)) (R:Type) (k:IV A→List (IV A)→Option R) (h:∀ xs:List (A 51),args≠[.arr 51 xs,.fn 46 []]):ykfy (@z41z _) args k = none:=by unfold ykfy;split;exact absurd rfl (h _);rfl
theorem yKVy [Fuel] (x y:A 51) (R:Type) (k:Int→Option R):ykBy T (ye4y (@z43z _)) 51 x y k = @z43z _ x y R k:=by kernel_rfl
theorem yJZy (x:G_Deed):(yoPy x).all scal = true:=rfl
theorem yAty [Fuel]:Ok 45 (ykfy (@z41z _)):=⟨yg4y (tyOk Tryz.prog) (e:=51) Tryz.sortf45 Tryz.isAgg51 Tryz.sizeOf51 (fun x d hd=>List.all_eq_true.1 (yJZy x) d hd) yKVy ywzy.fs ywzy.en yBCy yATy,yl3y (e:=51) yBCy yATy,enters_of (fn:=Tryz.f45) Tryz.func45 (by kernel_rfl) (by kernel_rfl)⟩
abbrev yj5y:Type 1:=List G_Deed→List G_Deed→{R:Type}→(List G_Deed→Int→Option R)→Option R
structure C_net_Merge where
 N:Nat
 z10z:ykty
 z11z:yxBy
 z41z:yxOy
def ybHy (g:C_net_Merge):Nat→List G_Deed→List G_Deed→Int→Int→List (List G_Deed)→{R:Type}→(List G_Deed→List G_Deed→Int→Option R)→(List G_Deed→List G_Deed→Option R)→Option R
 | 0,_,_,_,_,_,_,_,_=>none
 | n + 1,v3,v4,v5,v6,v7,_,e0,e1=>(bif (decide (v6 < v5)) then (inr v7 v6 (at_ v7 v6 fun x10=>(g.z10z x10 (fun r11=>(bif (r11 != 0) then e0 v3 v4 r11 else ybHy g n v3 v4 v5 (w64 (v6 + 1)) v7 e0 e1))))) else e1 v3 v4)
def ybuy (g:C_net_Merge):Nat→Int→Int→List (G_net_own×G_Deed)→List G_Deed→List G_Deed→{R:Type}→(Int→List G_Deed→Option R)→(List G_Deed→Option R)→Option R
 | 0,_,_,_,_,_,_,_,_=>none
 | n + 1,v18,v19,v20,v21,v22,_,e0,e1=>(bif (decide (v19 < v18)) then (inr v21 v19 (at_ v21 v19 fun x24=>(bif (!(yamy (⟨x24.f_Site,x24.f_No⟩:G_net_own) v20).isSome) then (bif (decide ((v22.length + [x24].length) * 176≤yady)) then ybuy g n v18 (w64 (v19 + 1)) (ybpy (⟨x24.f_Site,x24.f_No⟩:G_net_own) x24 v20) v21 (v22++[x24]) e0 e1 else none) else (bif (!(yaKy (⟨((yamy (⟨x24.f_Site,x24.f_No⟩:G_net_own) v20).getD (⟨[],0,0,0,(⟨0,0,[],[],0,0,[],[]⟩:G_Contact),[],[],0⟩:G_Deed)).f_Site,((yamy (⟨x24.f_Site,x24.f_No⟩:G_net_own) v20).getD (⟨[],0,0,0,(⟨0,0,[],[],0,0,[],[]⟩:G_Contact),[],[],0⟩:G_Deed)).f_No,((yamy (⟨x24.f_Site,x24.f_No⟩:G_net_own) v20).getD (⟨[],0,0,0,(⟨0,0,[],[],0,0,[],[]⟩:G_Contact),[],[],0⟩:G_Deed)).f_At,((yamy (⟨x24.f_Site,x24.f_No⟩:G_net_own) v20).getD (⟨[],0,0,0,(⟨0,0,[],[],0,0,[],[]⟩:G_Contact),[],[],0⟩:G_Deed)).f_Kind,(⟨((yamy (⟨x24.f_Site,x24.f_No⟩:G_net_own) v20).getD (⟨[],0,0,0,(⟨0,0,[],[],0,0,[],[]⟩:G_Contact),[],[],0⟩:G_Deed)).f_Contact.f_At,((yamy (⟨x24.f_Site,x24.f_No⟩:G_net_own) v20).getD (⟨[],0,0,0,(⟨0,0,[],[],0,0,[],[]⟩:G_Contact),[],[],0⟩:G_Deed)).f_Contact.f_Mode,((yamy (⟨x24.f_Site,x24.f_No⟩:G_net_own) v20).getD (⟨[],0,0,0,(⟨0,0,[],[],0,0,[],[]⟩:G_Contact),[],[],0⟩:G_Deed)).f_Contact.f_Band,((yamy (⟨x24.f_Site,x24.f_No⟩:G_net_own) v20).getD (⟨[],0,0,0,(⟨0,0,[],[],0,0,[],[]⟩:G_Contact),[],[],0⟩:G_Deed)).f_Contact.f_Call,((yamy (⟨x24.f_Site,x24.f_No⟩:G_net_own) v20).getD (⟨[],0,0,0,(⟨0,0,[],[],0,0,[],[]⟩:G_Contact),[],[],0⟩:G_Deed)).f_Contact.f_Sent,((yamy (⟨x24.f_Site,x24.f_No⟩:G_net_own) v20).getD (⟨[],0,0,0,(⟨0,0,[],[],0,0,[],[]⟩:G_Contact),[],[],0⟩:G_Deed)).f_Contact.f_Heard,((yamy (⟨x24.f_Site,x24.f_No⟩:G_net_own) v20).getD (⟨[],0,0,0,(⟨0,0,[],[],0,0,[],[]⟩:G_Contact),[],[],0⟩:G_Deed)).f_Contact.f_Gave,((yamy (⟨x24.f_Site,x24.f_No⟩:G_net_own) v20).getD (⟨[],0,0,0,(⟨0,0,[],[],0,0,[],[]⟩:G_Contact),[],[],0⟩:G_Deed)).f_Contact.f_Got⟩:G_Contact),((yamy (⟨x24.f_Site,x24.f_No⟩:G_net_own) v20).getD (⟨[],0,0,0,(⟨0,0,[],[],0,0,[],[]⟩:G_Contact),[],[],0⟩:G_Deed)).f_Band,((yamy (⟨x24.f_Site,x24.f_No⟩:G_net_own) v20).getD (⟨[],0,0,0,(⟨0,0,[],[],0,0,[],[]⟩:G_Contact),[],[],0⟩:G_Deed)).f_Of,((yamy (⟨x24.f_Site,x24.f_No⟩:G_net_own) v20).getD (⟨[],0,0,0,(⟨0,0,[],[],0,0,[],[]⟩:G_Contact),[],[],0⟩:G_Deed)).f_Other⟩:G_Deed) x24)) then e0 13 v22 else ybuy g n v18 (w64 (v19 + 1)) v20 v21 v22 e0 e1)))) else e1 v22)
def ysFy (g:C_net_Merge) (a1 a2:List G_Deed) {R:Type} (k0:List G_Deed→Int→Option R):Option R :=
 (ybHy g g.N a1 a2 ([a1,a2].length:Int) 0 [a1,a2] (fun e12 e13 e14=>k0 [] e14) (fun e15 e16=>(g.z11z [e15,e16] (fun r17=>(ybuy g g.N (r17.length:Int) 0 [] r17 [] (fun e25 e26=>k0 [] e25) (fun e27=>(bif (decide ((e27.length:Int) > 2000)) then k0 [] 2 else (g.z41z e27 (fun r28=>k0 r28 0)))))))))
noncomputable def yaTy [Fuel]:C_net_Merge:=⟨NN,@z10z _,@z11z _,@z41z _⟩
noncomputable def net_Merge [Fuel]:yj5y:=@ysFy yaTy
def ygiy (g:yj5y):Spec A:=fun args=>match args with | [.d (.sl 51 a1),.d (.sl 51 a2)]=>fun k=>g a1 a2 (fun z0 z1=>k (.tup [.arr 51 z0,.d (.int .i64 z1)]) [.undef,.undef]) | _=>fun _=>none
def yf7y:SSt:=mkSh 72 10 [(0,.sl 51),(1,.sl 51),(18,.own 44 0),(19,.int .i64),(20,.int .i64)] [(0,.row 44)]
def ycGy (g:C_net_Merge) (n:Nat):LPT A:=fun ps=>match ps with | [.d (.sl 51 p1),.d (.sl 51 p2),.d (.int .i64 p3),.d (.int .i64 p4),.d (.sl 44 p5)]=>fun K=>ybHy g n p1 p2 p3 p4 p5 (fun z0 z1 z2=>K .ret (mkSt 72 10 [(0,.d (.sl 51 z0)),(1,.d (.sl 51 z1)),(4,.d .nsl),(5,.d (.int .i64 z2))] [])) (fun z0 z1=>K (.exit 0) (mkSt 72 10 [(0,.d (.sl 51 z0)),(1,.d (.sl 51 z1))] [])) | _=>fun _=>none
def yeUy:SSt:=mkSh 72 10 [(9,.mp 1),(10,.own 51 4),(34,.own 51 3),(35,.int .i64),(36,.int .i64)] [(1,.mp 107 51),(3,.row 51),(4,.row 51)]
def yciy (g:C_net_Merge) (n:Nat):LPT A:=fun ps=>match ps with | [.d (.int .i64 p1),.d (.int .i64 p2),.mp 107 51 p3,.d (.sl 51 p4),.d (.sl 51 p5)]=>fun K=>ybuy g n p1 p2 p3 p4 p5 (fun z0 z1=>K .ret (mkSt 72 10 [(4,.d .nsl),(5,.d (.int .i64 z0)),(10,.own 51 4)] [(4,some (.row 51 z1))])) (fun z0=>K (.exit 2) (mkSt 72 10 [(10,.own 51 4)] [(4,some (.row 51 z0))])) | _=>fun _=>none
noncomputable def ytfy:Code:=(Tryz.f16.body).getD .skip
noncomputable def ydty (g:C_net_Merge):Env A:=mkE [(43,ygPy g.z10z),(44,yoWy g.z11z),(45,ykfy g.z41z)] [(12,[5]),(13,[6]),(14,[7]),(18,[0]),(30,[1]),(33,[2]),(34,[3]),(59,[8]),(60,[9])] [(2,⟨[0,1,18,19,20],[],[0],[],[],[],[]⟩),(11,⟨[9,10,34,35,36],[(10,51,4)],[1,3],[],[],[],[]⟩)] [(2,⟨[0,1,4,5],[],[],[],[],[],[]⟩),(11,⟨[4,5,10],[],[4],[],[],[],[]⟩)] [(2,yajy yf7y (ycGy g g.N)),(11,yajy yeUy (yciy g g.N))] [] [] [] [(45,0)] []
theorem ym0y [Fuel]:yaky (ydty yaTy).C:=ct_of (P:=Tryz.prog) (T:=T) (.cons ygXy (.cons yBUy (.cons yAty .nil))) (by kernel_rfl)
noncomputable def yjCy:Code:=sub [1,0,1,0,0] ytfy
theorem ytey (g:C_net_Merge) (n:Nat):yaoy (ydty g) g.N yjCy yf7y (ycGy g) n:=by intro ps;unfold ycGy;split;exact .inr fun R K=>(by kernel_rfl);exact .inl fun R K=>rfl
theorem yqQy [Fuel]:yagy (ydty yaTy) NN yjCy:=yaly yf7y (ycGy yaTy) (by kernel_rfl) ym0y (cuts0 (fun _=>rfl) (by kernel_rfl)) (fun ps R K=>by unfold ycGy;split <;> (try unfold ybHy) <;> rfl) (ytey yaTy)
noncomputable def yiFy:Code:=sub [1,1,1,1,0,1,0,0] ytfy
theorem ysay (g:C_net_Merge) (n:Nat):yaoy (ydty g) g.N yiFy yeUy (yciy g) n:=by intro ps;unfold yciy;split;exact .inr fun R K=>(by kernel_rfl);exact .inl fun R K=>rfl
theorem yqsy [Fuel]:yagy (ydty yaTy) NN yiFy:=yaly yeUy (yciy yaTy) (by kernel_rfl) ym0y (cuts0 (fun _=>rfl) (by kernel_rfl)) (fun ps R K=>by unfold yciy;split <;> (try unfold ybuy) <;> rfl) (ysay yaTy)
theorem ywyy (g:C_net_Merge):Same (ygiy (@ysFy g)) (abody (ydty g) Tryz.f16 ytfy 10 [] [.arr 51,.asis] g.N):=by intro args;unfold ygiy;split;exact .inr fun R k=>(by kernel_rfl);exact .inl fun R k=>rfl
theorem ynzy [Fuel]:Ok 16 (ygiy (@net_Merge _)):=yacy std (.cons ygXy (.cons yBUy (.cons yAty .nil))) ⟨rfl,rfl,by kernel_rfl,rfl,rfl,rfl⟩ (ywyy yaTy) (cutsL (fun _=>rfl) (.cons yqQy (.cons yqsy .nil)) (by kernel_rfl)) Tryz.func16 (by kernel_rfl) (by kernel_rfl)
abbrev yd4y:Type 1:=Int→{R:Type}→(List UInt8→Option R)→Option R
def strconv_Itoa [Fuel]:yd4y:=@ynEy
def yfry (g:yd4y):Spec A:=yi7y g
theorem yjny [Fuel]:Ok 31 (yfry (@strconv_Itoa _)):=⟨ytny (fun w h=>h) (fun n w h0 h1 ht=>Any.strconv_Itoa Tryz.laysM171 n h0 h1 w ht),yxyy,enters_of (fn:=Tryz.f31) Tryz.func31 (by kernel_rfl) (by kernel_rfl)⟩
abbrev ysqy:Type 1:={R:Type}→(List (List UInt8)→Option R)→Option R
def z88z_ (g:Nat)  {R:Type} (k0:List (List UInt8)→Option R):Option R :=
 k0 [[],[108,111,103],[116,117,110,101],[104,101,108,100],[102,114,101,101],[117,110,100,111]]
noncomputable def z88z [Fuel]:ysqy:=@z88z_ NN
def yk2y (g:ysqy):Spec A:=fun args=>match args with | []=>fun k=>g (fun z0=>k (.arr 9 z0) []) | _=>fun _=>none
noncomputable def yGAy:Code:=(Tryz.f100.body).getD .skip
noncomputable def yMky (g:Nat):Env A:=mkE [] [(1,[0])] [] [] [] [] [] [] [] []
theorem yH9y (g:Nat):Same (yk2y (@z88z_ g)) (abody (yMky g) Tryz.f100 yGAy 1 [] [.arr 9] g):=by intro args;unfold yk2y;split;exact .inr fun R k=>(by kernel_rfl);exact .inl fun R k=>rfl
theorem yAvy [Fuel]:Ok 100 (yk2y (@z88z _)):=yacy std .nil ⟨rfl,rfl,by kernel_rfl,rfl,rfl,rfl⟩ (yH9y NN) (cuts0 (fun _=>rfl) (by kernel_rfl)) Tryz.func100 (by kernel_rfl) (by kernel_rfl)
abbrev yrDy:Type 1:={R:Type}→(List (List UInt8)→Option R)→Option R
def z89z_ (g:Nat)  {R:Type} (k0:List (List UInt8)→Option R):Option R :=
 k0 [[],[99,111,100,101],[118,111,105,99,101],[100,97,116,97]]
noncomputable def z89z [Fuel]:yrDy:=@z89z_ NN
def ykiy (g:yrDy):Spec A:=fun args=>match args with | []=>fun k=>g (fun z0=>k (.arr 9 z0) []) | _=>fun _=>none
noncomputable def yHzy:Code:=(Tryz.f163.body).getD .skip
noncomputable def yM3y (g:Nat):Env A:=mkE [] [(1,[0])] [] [] [] [] [] [] [] []
theorem yKDy (g:Nat):Same (ykiy (@z89z_ g)) (abody (yM3y g) Tryz.f163 yHzy 1 [] [.arr 9] g):=by intro args;unfold ykiy;split;exact .inr fun R k=>(by kernel_rfl);exact .inl fun R k=>rfl
theorem yAWy [Fuel]:Ok 163 (ykiy (@z89z _)):=yacy std .nil ⟨rfl,rfl,by kernel_rfl,rfl,rfl,rfl⟩ (yKDy NN) (cuts0 (fun _=>rfl) (by kernel_rfl)) Tryz.func163 (by kernel_rfl) (by kernel_rfl)
abbrev yl1y:Type 1:=List UInt8→{R:Type}→(List UInt8→Option R)→Option R
def yjdy (g:Nat) (a1:List UInt8) {R:Type} (k0:List UInt8→Option R):Option R :=
 (bif (a1 == []) then k0 [45] else k0 a1)
noncomputable def kit_Dash [Fuel]:yl1y:=@yjdy NN
def yg8y (g:yl1y):Spec A:=fun args=>match args with | [.d (.str a1)]=>fun k=>g a1 (fun z0=>k (.d (.str z0)) [.undef]) | _=>fun _=>none
noncomputable def yHoy:Code:=(Tryz.f164.body).getD .skip
noncomputable def yCQy (g:Nat):Env A:=mkE [] [] [] [] [] [] [] [] [] []
theorem yzBy (g:Nat):Same (yg8y (@yjdy g)) (abody (yCQy g) Tryz.f164 yHoy 0 [] [.asis] g):=by intro args;unfold yg8y;split;exact .inr fun R k=>(by kernel_rfl);exact .inl fun R k=>rfl
theorem yzEy [Fuel]:Ok 164 (yg8y (@kit_Dash _)):=yacy std .nil ⟨rfl,rfl,by kernel_rfl,rfl,rfl,rfl⟩ (yzBy NN) (cuts0 (fun _=>rfl) (by kernel_rfl)) Tryz.func164 (by kernel_rfl) (by kernel_rfl)
abbrev ygNy:Type 1:=List (List UInt8)→List UInt8→{R:Type}→(List UInt8→Option R)→Option R
def strings_Join [Fuel]:ygNy:=@ykpy (List UInt8) (fun x=>x)
def ycyy (g:ygNy):Spec A:=fun args=>match args with | [.d (.sl 9 a1),.d (.str a2)]=>fun k=>g a1 a2 (fun z=>k (.d (.str z)) [.undef,.undef]) | _=>fun _=>none
theorem yjxy [Fuel] (xs:List (A 9)) (sep:List UInt8) (R:Type) (k:IV A→List (IV A)→Option R):ycyy (@strings_Join _) [.d (.sl 9 xs),.d (.str sep)] k = ykpy (α:=A 9) (fun (x:List UInt8)=>x) xs sep (fun z=>k (.d (.str z)) [.undef,.undef]):=by kernel_rfl
theorem yjqy [Fuel] (args:List (IV A)) (R:Type) (k:IV A→List (IV A)→Option R) (h:∀ (xs:List (A 9)) (sep:List UInt8),args≠[.d (.sl 9 xs),.d (.str sep)]):ycyy (@strings_Join _) args k = none:=by unfold ycyy;split;exact absurd rfl (h _ _);rfl
theorem ysRy [Fuel]:Ok 72 (ycyy (@strings_Join _)):=⟨yH8y rfl (e:=9) (fun (x:List UInt8)=>x) (fun _=>rfl) rfl (fun a c sep w=>Go.Proofs.Any.strings_Join_none Tryz.lays156 Tryz.bx156 a c sep w) (fun bk o c xs sep w h1 h2 h3 h4 h5=>Go.Proofs.Any.strings_Join Tryz.lays156 Tryz.bx156 bk o c xs sep w h1 h2 h3 h4 h5) yjxy yjqy,yIzy (e:=9) (fun (x:List UInt8)=>x) yjxy yjqy,enters_of (fn:=Tryz.f72) Tryz.func72 (by kernel_rfl) (by kernel_rfl)⟩
abbrev yhWy:Type 1:=List (List UInt8)→{R:Type}→(List UInt8→Option R)→Option R
structure C_kit_Join where
 N:Nat
 strings_Join:ygNy
def ye5y (g:C_kit_Join) (a1:List (List UInt8)) {R:Type} (k0:List UInt8→Option R):Option R :=
 (g.strings_Join a1 [32] (fun r2=>(bif (strOk r2 [10]) then k0 (r2++[10]) else none)))
noncomputable def yd2y [Fuel]:C_kit_Join:=⟨NN,@strings_Join _⟩
noncomputable def kit_Join [Fuel]:yhWy:=@ye5y yd2y
def yesy (g:yhWy):Spec A:=fun args=>match args with | [.d (.sl 9 a1)]=>fun k=>g a1 (fun z0=>k (.d (.str z0)) [.undef]) | _=>fun _=>none
noncomputable def yJky:Code:=(Tryz.f30.body).getD .skip
noncomputable def yB7y (g:C_kit_Join):Env A:=mkE [(72,ycyy g.strings_Join)] [] [] [] [] [] [] [] [] []
theorem yyOy (g:C_kit_Join):Same (yesy (@ye5y g)) (abody (yB7y g) Tryz.f30 yJky 0 [] [.asis] g.N):=by intro args;unfold yesy;split;exact .inr fun R k=>(by kernel_rfl);exact .inl fun R k=>rfl
theorem ypty [Fuel]:Ok 30 (yesy (@kit_Join _)):=yacy std (.cons ysRy .nil) ⟨rfl,rfl,by kernel_rfl,rfl,rfl,rfl⟩ (yyOy yd2y) (cuts0 (fun _=>rfl) (by kernel_rfl)) Tryz.func30 (by kernel_rfl) (by kernel_rfl)
abbrev ymny:Type 1:=G_Contact→{R:Type}→(List UInt8→Option R)→Option R
structure C_log_Line where
 N:Nat
 kit_Join:yhWy
 strconv_Itoa:yd4y
 z89z:yrDy
 kit_Dash:yl1y
def yjky (g:C_log_Line) (a1:G_Contact) {R:Type} (k0:List UInt8→Option R):Option R :=
 (g.strconv_Itoa a1.f_At (fun r2=>(g.z89z (fun r3=>(inr r3 a1.f_Mode (at_ r3 a1.f_Mode fun x4=>(g.strconv_Itoa a1.f_Sent (fun r5=>(g.kit_Dash a1.f_Gave (fun r6=>(g.strconv_Itoa a1.f_Heard (fun r7=>(g.kit_Dash a1.f_Got (fun r8=>(g.kit_Join [r2,x4,a1.f_Band,a1.f_Call,r5,r6,r7,r8] (fun r9=>k0 r9))))))))))))))))
noncomputable def ybVy [Fuel]:C_log_Line:=⟨NN,@kit_Join _,@strconv_Itoa _,@z89z _,@kit_Dash _⟩
noncomputable def log_Line [Fuel]:ymny:=@yjky ybVy
def yg7y (g:ymny):Spec A:=fun args=>match args with | [.agg [.d (.int .i64 a1),.d (.int .i64 a2),.d (.str a3),.d (.str a4),.d (.int .i64 a5),.d (.int .i64 a6),.d (.str a7),.d (.str a8)]]=>fun k=>g ⟨a1,a2,a3,a4,a5,a6,a7,a8⟩ (fun z0=>k (.d (.str z0)) [.undef]) | _=>fun _=>none
noncomputable def yF6y:Code:=(Tryz.f101.body).getD .skip
noncomputable def yB5y (g:C_log_Line):Env A:=mkE [(30,yesy g.kit_Join),(31,yfry g.strconv_Itoa),(163,ykiy g.z89z),(164,yg8y g.kit_Dash)] [(1,[0]),(6,[1]),(27,[2])] [] [] [] [] [] [] [] []
theorem yzCy (g:C_log_Line):Same (yg7y (@yjky g)) (abody (yB5y g) Tryz.f101 yF6y 3 [] [.asis] g.N):=by intro args;unfold yg7y;split;exact .inr fun R k=>(by kernel_rfl);exact .inl fun R k=>rfl
theorem yzGy [Fuel]:Ok 101 (yg7y (@log_Line _)):=yacy std (.cons ypty (.cons yjny (.cons yAWy (.cons yzEy .nil)))) ⟨rfl,rfl,by kernel_rfl,rfl,rfl,rfl⟩ (yzCy ybVy) (cuts0 (fun _=>rfl) (by kernel_rfl)) Tryz.func101 (by kernel_rfl) (by kernel_rfl)
abbrev ywfy:Type 1:=G_Deed→{R:Type}→(List UInt8→Option R)→Option R
structure C_z74z where
 N:Nat
 kit_Join:yhWy
 strconv_Itoa:yd4y
 z88z:ysqy
 log_Line:ymny
def z74z_ (g:C_z74z) (a1:G_Deed) {R:Type} (k0:List UInt8→Option R):Option R :=
 (bif (strOk a1.f_Site [32]) then (g.strconv_Itoa a1.f_No (fun r2=>(bif (strOk (a1.f_Site++[32]) r2) then (bif (strOk ((a1.f_Site++[32])++r2) [32]) then (g.strconv_Itoa a1.f_At (fun r3=>(bif (strOk (((a1.f_Site++[32])++r2)++[32]) r3) then (bif (strOk ((((a1.f_Site++[32])++r2)++[32])++r3) [32]) then (g.z88z (fun r4=>(inr r4 a1.f_Kind (at_ r4 a1.f_Kind fun x5=>(bif (strOk (((((a1.f_Site++[32])++r2)++[32])++r3)++[32]) x5) then (bif (strOk ((((((a1.f_Site++[32])++r2)++[32])++r3)++[32])++x5) [32]) then (bif (a1.f_Kind == 1) then (g.log_Line a1.f_Contact (fun r6=>(bif (strOk (((((((a1.f_Site++[32])++r2)++[32])++r3)++[32])++x5)++[32]) r6) then k0 ((((((((a1.f_Site++[32])++r2)++[32])++r3)++[32])++x5)++[32])++r6) else none))) else (bif (a1.f_Kind == 2) then (g.kit_Join [a1.f_Band] (fun r7=>(bif (strOk (((((((a1.f_Site++[32])++r2)++[32])++r3)++[32])++x5)++[32]) r7) then k0 ((((((((a1.f_Site++[32])++r2)++[32])++r3)++[32])++x5)++[32])++r7) else none))) else (bif (a1.f_Kind == 5) then (g.strconv_Itoa a1.f_Other (fun r8=>(g.kit_Join [a1.f_Of,r8] (fun r9=>(bif (strOk (((((((a1.f_Site++[32])++r2)++[32])++r3)++[32])++x5)++[32]) r9) then k0 ((((((((a1.f_Site++[32])++r2)++[32])++r3)++[32])++x5)++[32])++r9) else none))))) else (g.strconv_Itoa a1.f_Contact.f_Sent (fun r10=>(g.kit_Join [r10] (fun r11=>(bif (strOk (((((((a1.f_Site++[32])++r2)++[32])++r3)++[32])++x5)++[32]) r11) then k0 ((((((((a1.f_Site++[32])++r2)++[32])++r3)++[32])++x5)++[32])++r11) else none)))))))) else none) else none))))) else none) else none))) else none) else none))) else none)
noncomputable def ydfy [Fuel]:C_z74z:=⟨NN,@kit_Join _,@strconv_Itoa _,@z88z _,@log_Line _⟩
noncomputable def z74z [Fuel]:ywfy:=@z74z_ ydfy
def yojy (g:ywfy):Spec A:=fun args=>match args with | [.agg [.d (.str a1),.d (.int .i64 a2),.d (.int .i64 a3),.d (.int .i64 a4),.d (.int .i64 a5),.d (.int .i64 a6),.d (.str a7),.d (.str a8),.d (.int .i64 a9),.d (.int .i64 a10),.d (.str a11),.d (.str a12),.d (.str a13),.d (.str a14),.d (.int .i64 a15)]]=>fun k=>g ⟨a1,a2,a3,a4,⟨a5,a6,a7,a8,a9,a10,a11,a12⟩,a13,a14,a15⟩ (fun z0=>k (.d (.str z0)) [.undef]) | _=>fun _=>none
noncomputable def yJTy:Code:=(Tryz.f47.body).getD .skip
noncomputable def yNdy (g:C_z74z):Env A:=mkE [(30,yesy g.kit_Join),(31,yfry g.strconv_Itoa),(100,yk2y g.z88z),(101,yg7y g.log_Line)] [(1,[0]),(17,[1]),(38,[2]),(49,[3]),(57,[4])] [] [] [] [] [] [] [] []
theorem yKuy (g:C_z74z):Same (yojy (@z74z_ g)) (abody (yNdy g) Tryz.f47 yJTy 5 [] [.asis] g.N):=by intro args;unfold yojy;split;exact .inr fun R k=>(by kernel_rfl);exact .inl fun R k=>rfl
theorem yAdy [Fuel]:Ok 47 (yojy (@z74z _)):=yacy std (.cons ypty (.cons yjny (.cons yAvy (.cons yzGy .nil)))) ⟨rfl,rfl,by kernel_rfl,rfl,rfl,rfl⟩ (yKuy ydfy) (cuts0 (fun _=>rfl) (by kernel_rfl)) Tryz.func47 (by kernel_rfl) (by kernel_rfl)
abbrev yloy:Type 1:=List G_Deed→{R:Type}→(List UInt8→Int→Option R)→Option R
structure C_net_Text where
 N:Nat
 z10z:ykty
 z74z:ywfy
def ycIy (g:C_net_Text):Nat→List G_Deed→Int→Int→List UInt8→{R:Type}→(List UInt8→Option R)→Option R
 | 0,_,_,_,_,_,_=>none
 | n + 1,v3,v4,v5,v6,_,e0=>(bif (decide (v5 < v4)) then (get_ v3 v5 fun x9=>(g.z74z x9 (fun r10=>(bif (decide (v6.length + r10.length≤140737488355328)) then ycIy g n v3 v4 (w64 (v5 + 1)) (v6++r10) e0 else none)))) else e0 v6)
def yjby (g:C_net_Text) (a1:List G_Deed) {R:Type} (k0:List UInt8→Int→Option R):Option R :=
 (g.z10z a1 (fun r2=>(bif (r2 != 0) then k0 [] r2 else (ycIy g g.N a1 (a1.length:Int) 0 [] (fun e11=>(bif (decide ((e11.length:Int) > 200000)) then k0 [] 2 else k0 e11 0))))))
noncomputable def ybWy [Fuel]:C_net_Text:=⟨NN,@z10z _,@z74z _⟩
noncomputable def net_Text [Fuel]:yloy:=@yjby ybWy
def yhcy (g:yloy):Spec A:=fun args=>match args with | [.d (.sl 51 a1)]=>fun k=>g a1 (fun z0 z1=>k (.tup [.d (.str z0),.d (.int .i64 z1)]) [.undef]) | _=>fun _=>none
def ygxy:SSt:=mkSh 26 2 [(5,.ptr 0 0),(13,.sl 51),(14,.int .i64),(15,.int .i64)] [(0,.bld)]
def ycZy (g:C_net_Text) (n:Nat):LPT A:=fun ps=>match ps with | [.d (.sl 51 p1),.d (.int .i64 p2),.d (.int .i64 p3),.d (.str p4)]=>fun K=>ycIy g n p1 p2 p3 p4 (fun z0=>K (.exit 0) (mkSt 26 2 [(5,.ptr 0 0)] [(0,some (.bld z0))])) | _=>fun _=>none
noncomputable def yBmy:Code:=(Tryz.f17.body).getD .skip
noncomputable def yhYy (g:C_net_Text):Env A:=mkE [(43,ygPy g.z10z),(47,yojy g.z74z)] [(5,[0]),(7,[1])] [(6,⟨[5,13,14,15],[],[0],[],[],[],[]⟩)] [(6,⟨[5],[],[0],[],[],[],[]⟩)] [(6,yajy ygxy (ycZy g g.N))] [] [] [] [] []
theorem yzcy [Fuel]:yaky (yhYy ybWy).C:=ct_of (P:=Tryz.prog) (T:=T) (.cons ygXy (.cons yAdy .nil)) (by kernel_rfl)
noncomputable def ykTy:Code:=sub [1,1,1,0,1,0,0] yBmy
theorem yuKy (g:C_net_Text) (n:Nat):yaoy (yhYy g) g.N ykTy ygxy (ycZy g) n:=by intro ps;unfold ycZy;split;exact .inr fun R K=>(by kernel_rfl);exact .inl fun R K=>rfl
theorem ys4y [Fuel]:yagy (yhYy ybWy) NN ykTy:=yaly ygxy (ycZy ybWy) (by kernel_rfl) yzcy (cuts0 (fun _=>rfl) (by kernel_rfl)) (fun ps R K=>by unfold ycZy;split <;> (try unfold ycIy) <;> rfl) (yuKy ybWy)
theorem yyUy (g:C_net_Text):Same (yhcy (@yjby g)) (abody (yhYy g) Tryz.f17 yBmy 2 [] [.asis,.asis] g.N):=by intro args;unfold yhcy;split;exact .inr fun R k=>(by kernel_rfl);exact .inl fun R k=>rfl
theorem ypYy [Fuel]:Ok 17 (yhcy (@net_Text _)):=yacy std (.cons ygXy (.cons yAdy .nil)) ⟨rfl,rfl,by kernel_rfl,rfl,rfl,rfl⟩ (yyUy ybWy) (cutsL (fun _=>rfl) (.cons ys4y .nil) (by kernel_rfl)) Tryz.func17 (by kernel_rfl) (by kernel_rfl)
abbrev yv6y:Type 1:=List UInt8→List UInt8→{R:Type}→(Bool→Option R)→Option R
def z72z_ (g:Nat) (a1 a2:List UInt8) {R:Type} (k0:Bool→Option R):Option R :=
 (bif (decide ((a1.length:Int) ≥ (a2.length:Int))) then (bif (decide (0≤(w64 ((a1.length:Int) - (a2.length:Int))))&&decide ((w64 ((a1.length:Int) - (a2.length:Int)))≤(a1.length:Int))) then k0 ((a1.drop ((w64 ((a1.length:Int) - (a2.length:Int))):Int).toNat) == a2) else none) else k0 false)
noncomputable def z72z [Fuel]:yv6y:=@z72z_ NN
def ypey (g:yv6y):Spec A:=fun args=>match args with | [.d (.str a1),.d (.str a2)]=>fun k=>g a1 a2 (fun z0=>k (.d (.bool z0)) [.undef,.undef]) | _=>fun _=>none
noncomputable def yGvy:Code:=(Tryz.f188.body).getD .skip
noncomputable def yN0y (g:Nat):Env A:=mkE [] [] [] [] [] [] [] [] [] []
theorem yLLy (g:Nat):Same (ypey (@z72z_ g)) (abody (yN0y g) Tryz.f188 yGvy 0 [] [.asis] g):=by intro args;unfold ypey;split;exact .inr fun R k=>(by kernel_rfl);exact .inl fun R k=>rfl
theorem yLJy [Fuel]:Ok 188 (ypey (@z72z _)):=yacy std .nil ⟨rfl,rfl,by kernel_rfl,rfl,rfl,rfl⟩ (yLLy NN) (cuts0 (fun _=>rfl) (by kernel_rfl)) Tryz.func188 (by kernel_rfl) (by kernel_rfl)
abbrev yxYy:Type 1:=List UInt8→List UInt8→{R:Type}→(List UInt8→Bool→Option R)→Option R
structure C_z61z where
 N:Nat
 z72z:yv6y
def z61z_ (g:C_z61z) (a1 a2:List UInt8) {R:Type} (k0:List UInt8→Bool→Option R):Option R :=
 (g.z72z a1 a2 (fun r3=>(bif (!r3) then k0 a1 false else (bif (decide (0≤(w64 ((a1.length:Int) - (a2.length:Int))))&&decide ((w64 ((a1.length:Int) - (a2.length:Int)))≤(a1.length:Int))) then k0 (a1.take ((w64 ((a1.length:Int) - (a2.length:Int))):Int).toNat) true else none))))
noncomputable def yrIy [Fuel]:C_z61z:=⟨NN,@z72z _⟩
noncomputable def z61z [Fuel]:yxYy:=@z61z_ yrIy
def ypay (g:yxYy):Spec A:=fun args=>match args with | [.d (.str a1),.d (.str a2)]=>fun k=>g a1 a2 (fun z0 z1=>k (.tup [.d (.str z0),.d (.bool z1)]) [.undef,.undef]) | _=>fun _=>none
noncomputable def yGwy:Code:=(Tryz.f126.body).getD .skip
noncomputable def yNYy (g:C_z61z):Env A:=mkE [(188,ypey g.z72z)] [] [] [] [] [] [] [] [] []
theorem yMfy (g:C_z61z):Same (ypay (@z61z_ g)) (abody (yNYy g) Tryz.f126 yGwy 0 [] [.asis,.asis] g.N):=by intro args;unfold ypay;split;exact .inr fun R k=>(by kernel_rfl);exact .inl fun R k=>rfl
theorem yLNy [Fuel]:Ok 126 (ypay (@z61z _)):=yacy std (.cons yLJy .nil) ⟨rfl,rfl,by kernel_rfl,rfl,rfl,rfl⟩ (yMfy yrIy) (cuts0 (fun _=>rfl) (by kernel_rfl)) Tryz.func126 (by kernel_rfl) (by kernel_rfl)
abbrev yu7y:Type 1:=List UInt8→List UInt8→{R:Type}→(List UInt8→Bool→Option R)→Option R
structure C_z70z where
 N:Nat
 z61z:yxYy
def z70z_ (g:C_z70z) (a1 a2:List UInt8) {R:Type} (k0:List UInt8→Bool→Option R):Option R :=
 (g.z61z a1 a2 (fun r3 r4=>k0 r3 r4))
noncomputable def yEMy [Fuel]:C_z70z:=⟨NN,@z61z _⟩
noncomputable def z70z [Fuel]:yu7y:=@z70z_ yEMy
def yo4y (g:yu7y):Spec A:=fun args=>match args with | [.d (.str a1),.d (.str a2)]=>fun k=>g a1 a2 (fun z0 z1=>k (.tup [.d (.str z0),.d (.bool z1)]) [.undef,.undef]) | _=>fun _=>none
noncomputable def yLKy:Code:=(Tryz.f74.body).getD .skip
noncomputable def yNhy (g:C_z70z):Env A:=mkE [(126,ypay g.z61z)] [] [] [] [] [] [] [] [] []
theorem yI6y (g:C_z70z):Same (yo4y (@z70z_ g)) (abody (yNhy g) Tryz.f74 yLKy 0 [] [.asis,.asis] g.N):=by intro args;unfold yo4y;split;exact .inr fun R k=>(by kernel_rfl);exact .inl fun R k=>rfl
theorem yIjy [Fuel]:Ok 74 (yo4y (@z70z _)):=yacy std (.cons yLNy .nil) ⟨rfl,rfl,by kernel_rfl,rfl,rfl,rfl⟩ (yI6y yEMy) (cuts0 (fun _=>rfl) (by kernel_rfl)) Tryz.func74 (by kernel_rfl) (by kernel_rfl)
abbrev yfiy:Type 1:=List UInt8→List UInt8→{R:Type}→(Int→Option R)→Option R
def strings_Count [Fuel]:yfiy:=@ysKy
def yiEy (g:yfiy):Spec A:=yiSy g
theorem yiLy [Fuel]:Ok 190 (yiEy (@strings_Count _)):=⟨ys9y (yCmy (Any.strings_Count_one Tryz.lays138)),yvHy,enters_of (fn:=Tryz.f190) Tryz.func190 (by kernel_rfl) (by kernel_rfl)⟩
end Go.Am
