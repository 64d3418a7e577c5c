/- The functions of the program as Lean functions, each shown to be what the code computes, part 10. No condition: lemmas for the claim. -/
import Derived.Test.YtmhbhdhddlbdlaaGreatDoorF0
import Derived.Test.YtmhbhdhddlbdlaaGreatDoorFSh
import Derived.Test.YtmhbhdhddlbdlaaGreatDoorF1
import Derived.Test.YtmhbhdhddlbdlaaGreatDoorF4
import Derived.Test.YtmhbhdhddlbdlaaGreatDoorF5
import Derived.Test.YtmhbhdhddlbdlaaGreatDoorF8
import Derived.Test.YtmhbhdhddlbdlaaGreatDoorF9
set_option linter.unusedVariables false
set_option maxRecDepth 100000
namespace Go.Am
open Go Go.Proofs
abbrev yxgy:Type 1:=List G_Entrant→{R:Type}→(Int→Option R)→Option R
structure C_z27z where
 N:Nat
 z45z:yfTy
 call_Is:yjEy
 z23z:yi8y
 strings_Compare:ya8y
 kit_IsKey:ybDy
 z87z:yyby
def z27z_L4 (g:C_z27z):Nat→List G_Entrant→List G_Entrant→Int→Int→{R:Type}→(Int→Option R)→Option R→Option R
 | 0,_,_,_,_,_,_,_=>none
 | n + 1,v2,v3,v4,v5,_,e0,e1=>(bif (decide (v5 < v4)) then (get_ v3 v5 fun x21=>(g.call_Is x21.f_Call (fun r22=>(bif (!r22) then e0 3 else (g.kit_IsKey x21.f_Category (fun r23=>(bif (!r23) then e0 5 else (g.z45z x21.f_Points 0 1000000000000 (fun r24=>(bif r24 then e0 1 else (bif (!(x21.f_Locator == [])) then (g.z87z x21.f_Locator (fun r25=>(bif (!r25) then e0 3 else (bif (decide (v5 > 0)) then (get_ v2 (w64 (v5 - 1)) fun x26=>(get_ v2 (w64 (v5 - 1)) fun x27=>(g.strings_Compare x26.f_Category x21.f_Category (fun r28=>(g.strings_Compare x27.f_Call x21.f_Call (fun r29=>(g.z23z [r28,r29] (fun r30=>(bif (decide (r30 ≥ 0)) then e0 7 else z27z_L4 g n v2 v3 v4 (w64 (v5 + 1)) e0 e1))))))))) else z27z_L4 g n v2 v3 v4 (w64 (v5 + 1)) e0 e1)))) else (bif (decide (v5 > 0)) then (get_ v2 (w64 (v5 - 1)) fun x31=>(get_ v2 (w64 (v5 - 1)) fun x32=>(g.strings_Compare x31.f_Category x21.f_Category (fun r33=>(g.strings_Compare x32.f_Call x21.f_Call (fun r34=>(g.z23z [r33,r34] (fun r35=>(bif (decide (r35 ≥ 0)) then e0 7 else z27z_L4 g n v2 v3 v4 (w64 (v5 + 1)) e0 e1))))))))) else z27z_L4 g n v2 v3 v4 (w64 (v5 + 1)) e0 e1)))))))))))) else e1)
def z27z_ (g:C_z27z) (a1:List G_Entrant) {R:Type} (k0:Int→Option R):Option R :=
 (bif (decide ((a1.length:Int) > 500)) then k0 2 else (z27z_L4 g g.N a1 a1 (a1.length:Int) 0 (fun e36=>k0 e36) (k0 0)))
noncomputable def yk1y [Fuel]:C_z27z:=⟨NN,@z45z _,@call_Is _,@z23z _,@strings_Compare _,@kit_IsKey _,@z87z _⟩
noncomputable def z27z [Fuel]:yxgy:=@z27z_ yk1y
def ypky (g:yxgy):Spec A:=fun args=>match args with | [.d (.sl 98 a1)]=>fun k=>g a1 (fun z0=>k (.d (.int .i64 z0)) [.undef]) | _=>fun _=>none
def ylPy:SSt:=mkSh 66 2 [(0,.sl 98),(8,.sl 98),(9,.int .i64),(10,.int .i64)] []
def yfMy (g:C_z27z) (n:Nat):LPT A:=fun ps=>match ps with | [.d (.sl 98 p1),.d (.sl 98 p2),.d (.int .i64 p3),.d (.int .i64 p4)]=>fun K=>z27z_L4 g n p1 p2 p3 p4 (fun z0=>K .ret (mkSt 66 2 [(2,.d (.int .i64 z0))] [])) (K (.exit 0) (mkSt 66 2 [] [])) | _=>fun _=>none
noncomputable def yBPy:Code:=(Tryz.f86.body).getD .skip
noncomputable def ysuy (g:C_z27z):Env A:=mkE [(63,ydvy g.z45z),(64,yghy g.call_Is),(68,yb3y g.z23z),(70,yaDy g.strings_Compare),(80,ybiy g.kit_IsKey),(142,yoey g.z87z)] [(4,[0]),(61,[1])] [(4,⟨[0,8,9,10],[],[],[],[],[],[]⟩)] [(4,⟨[2],[],[],[],[],[],[]⟩)] [(4,yajy ylPy (yfMy g g.N))] [] [] [] [] []
theorem yIsy [Fuel]:yaky (ysuy yk1y).C:=ct_of (P:=Tryz.prog) (T:=T) (.cons yfey (.cons yiey (.cons yiky (.cons ybly (.cons yaVy (.cons yz4y .nil)))))) (by kernel_rfl)
noncomputable def yswy:Code:=sub [1,1,0,1,0,0] yBPy
theorem yEXy (g:C_z27z) (n:Nat):yaoy (ysuy g) g.N yswy ylPy (yfMy g) n:=by intro ps;unfold yfMy;split;exact .inr fun R K=>(by kernel_rfl);exact .inl fun R K=>rfl
theorem yCay [Fuel]:yagy (ysuy yk1y) NN yswy:=yaly ylPy (yfMy yk1y) (by kernel_rfl) yIsy (cuts0 (fun _=>rfl) (by kernel_rfl)) (fun ps R K=>by unfold yfMy;split <;> (try unfold z27z_L4) <;> rfl) (yEXy yk1y)
theorem yKyy (g:C_z27z):Same (ypky (@z27z_ g)) (abody (ysuy g) Tryz.f86 yBPy 2 [] [.asis] g.N):=by intro args;unfold ypky;split;exact .inr fun R k=>(by kernel_rfl);exact .inl fun R k=>rfl
theorem yAgy [Fuel]:Ok 86 (ypky (@z27z _)):=yacy std (.cons yfey (.cons yiey (.cons yiky (.cons ybly (.cons yaVy (.cons yz4y .nil)))))) ⟨rfl,rfl,by kernel_rfl,rfl,rfl,rfl⟩ (yKyy yk1y) (cutsL (fun _=>rfl) (.cons yCay .nil) (by kernel_rfl)) Tryz.func86 (by kernel_rfl) (by kernel_rfl)
abbrev yEiy:Type 1:=G_Place→G_Place→{R:Type}→(Int→Option R)→Option R
structure C_z44z where
 N:Nat
 z23z:yi8y
 z24z:ykwy
 strings_Compare:ya8y
def z44z_ (g:C_z44z) (a1 a2:G_Place) {R:Type} (k0:Int→Option R):Option R :=
 (g.z24z a2.f_Points a1.f_Points (fun r3=>(g.strings_Compare a1.f_Key a2.f_Key (fun r4=>(g.z23z [r3,r4] (fun r5=>k0 r5))))))
noncomputable def ywsy [Fuel]:C_z44z:=⟨NN,@z23z _,@z24z _,@strings_Compare _⟩
noncomputable def z44z [Fuel]:yEiy:=@z44z_ ywsy
def ygMy (g:yEiy):Spec A:=fun args=>match args with | [.agg [.d (.int .i64 a1),.d (.int .i64 a2),.d (.str a3)],.agg [.d (.int .i64 a4),.d (.int .i64 a5),.d (.str a6)]]=>fun k=>g ⟨a1,a2,a3⟩ ⟨a4,a5,a6⟩ (fun z0=>k (.d (.int .i64 z0)) [.undef,.undef]) | _=>fun _=>none
noncomputable def yxby:Code:=(Tryz.f144.body).getD .skip
noncomputable def yNLy (g:C_z44z):Env A:=mkE [(68,yb3y g.z23z),(69,ycdy g.z24z),(70,yaDy g.strings_Compare)] [(2,[0]),(3,[1]),(15,[2])] [] [] [] [] [] [] [] []
theorem yJ2y (g:C_z44z):Same (ygMy (@z44z_ g)) (abody (yNLy g) Tryz.f144 yxby 3 [] [.asis] g.N):=by intro args;unfold ygMy;split;exact .inr fun R k=>(by kernel_rfl);exact .inl fun R k=>rfl
theorem ok_z44z [Fuel]:Ok 144 (ygMy (@z44z _)):=yacy std (.cons yiky (.cons yofy (.cons ybly .nil))) ⟨rfl,rfl,by kernel_rfl,rfl,rfl,rfl⟩ (yJ2y ywsy) (cuts0 (fun _=>rfl) (by kernel_rfl)) Tryz.func144 (by kernel_rfl) (by kernel_rfl)
noncomputable def yKry (g:C_z44z):Env A:=mkED [(68,yb3y g.z23z),(69,ycdy g.z24z),(70,yaDy g.strings_Compare)] [(2,[0]),(3,[1]),(15,[2])] [] [] [] [] [] [] [] []
theorem yGuy (g:C_z44z):Same (ygMy (@z44z_ g)) (abody (yKry g) Tryz.f144 yxby 3 [] [.asis] g.N):=by intro args;unfold ygMy;split;exact .inr fun R k=>(by kernel_rfl);exact .inl fun R k=>rfl
theorem yvRy [Fuel]:OkD 144 (ygMy (@z44z _)):=yacy stdD (.cons yqjy (.cons yqcy (.cons ydBy .nil))) ⟨rfl,rfl,by kernel_rfl,rfl,rfl,rfl⟩ (yGuy ywsy) (cuts0 (fun _=>rfl) (by kernel_rfl)) Tryz.func144 (by kernel_rfl) (by kernel_rfl)
abbrev yx2y:Type 1:=List G_Place→{R:Type}→(List G_Place→Option R)→Option R
noncomputable def z36z [Fuel]:yx2y:=@ybOy G_Place (@z44z _)
def ykey (g:yx2y):Spec A:=fun args=>match args with | [.arr 142 a1,.fn 144 []]=>fun k=>g a1 (fun z=>k (.tup []) [.arr 142 z,.fn 144 []]) | _=>fun _=>none
theorem yAAy [Fuel] (xs:List (A 142)) (R:Type) (k:IV A→List (IV A)→Option R):ykey (@z36z _) [.arr 142 xs,.fn 144 []] k = ybOy (α:=A 142) (@z44z _) xs (fun z=>k (.tup []) [.arr 142 z,.fn 144 []]):=by kernel_rfl
theorem yBMy [Fuel] (args:List (IV A)) (R:Type) (k:IV A→List (IV A)→Option R) (h:∀ xs:List (A 142),args≠[.arr 142 xs,.fn 144 []]):ykey (@z36z _) args k = none:=by unfold ykey;split;exact absurd rfl (h _);rfl
theorem yJ4y [Fuel] (x y:A 142) (R:Type) (k:Int→Option R):ykBy T (ygMy (@z44z _)) 142 x y k = @z44z _ x y R k:=by kernel_rfl
theorem yIgy (x:G_Place):(ylEy x).all scal = true:=rfl
theorem yA5y [Fuel]:Ok 143 (ykey (@z36z _)):=⟨yg4y (tyOk Tryz.prog) (e:=142) Tryz.sortf143 Tryz.isAgg142 Tryz.sizeOf142 (fun x d hd=>List.all_eq_true.1 (yIgy x) d hd) yJ4y yvRy.fs yvRy.en yAAy yBMy,yl3y (e:=142) yAAy yBMy,enters_of (fn:=Tryz.f143) Tryz.func143 (by kernel_rfl) (by kernel_rfl)⟩
abbrev ywYy:Type 1:=List G_Place→{R:Type}→(List G_Place→Option R)→Option R
structure C_z16z where
 N:Nat
 z36z:yx2y
def z16z_L3 (g:C_z16z):Nat→Int→Int→List G_Place→{R:Type}→(List G_Place→Option R)→Option R
 | 0,_,_,_,_,_=>none
 | n + 1,v3,v4,v5,_,e0=>(bif (decide (v4 < v3)) then (inr v5 v4 (at_ v5 v4 fun x11=>(bif (decide (v4 > 0)) then (inr (set_ v5 v4 (⟨(w64 (v4 + 1)),x11.f_Points,x11.f_Key⟩:G_Place)) v4 (at_ (set_ v5 v4 (⟨(w64 (v4 + 1)),x11.f_Points,x11.f_Key⟩:G_Place)) v4 fun x12=>(inr (set_ v5 v4 (⟨(w64 (v4 + 1)),x11.f_Points,x11.f_Key⟩:G_Place)) (w64 (v4 - 1)) (at_ (set_ v5 v4 (⟨(w64 (v4 + 1)),x11.f_Points,x11.f_Key⟩:G_Place)) (w64 (v4 - 1)) fun x13=>(bif (x12.f_Points == x13.f_Points) then (inr (set_ v5 v4 (⟨(w64 (v4 + 1)),x11.f_Points,x11.f_Key⟩:G_Place)) (w64 (v4 - 1)) (at_ (set_ v5 v4 (⟨(w64 (v4 + 1)),x11.f_Points,x11.f_Key⟩:G_Place)) (w64 (v4 - 1)) fun x14=>(inr (set_ v5 v4 (⟨(w64 (v4 + 1)),x11.f_Points,x11.f_Key⟩:G_Place)) v4 (at_ (set_ v5 v4 (⟨(w64 (v4 + 1)),x11.f_Points,x11.f_Key⟩:G_Place)) v4 fun x15=>z16z_L3 g n v3 (w64 (v4 + 1)) (set_ (set_ v5 v4 (⟨(w64 (v4 + 1)),x11.f_Points,x11.f_Key⟩:G_Place)) v4 (⟨x14.f_Rank,x15.f_Points,x15.f_Key⟩:G_Place)) e0)))) else z16z_L3 g n v3 (w64 (v4 + 1)) (set_ v5 v4 (⟨(w64 (v4 + 1)),x11.f_Points,x11.f_Key⟩:G_Place)) e0))))) else z16z_L3 g n v3 (w64 (v4 + 1)) (set_ v5 v4 (⟨(w64 (v4 + 1)),x11.f_Points,x11.f_Key⟩:G_Place)) e0))) else e0 v5)
def z16z_ (g:C_z16z) (a1:List G_Place) {R:Type} (k0:List G_Place→Option R):Option R :=
 (g.z36z a1 (fun r2=>(z16z_L3 g g.N (r2.length:Int) 0 r2 (fun e16=>k0 e16))))
noncomputable def yfsy [Fuel]:C_z16z:=⟨NN,@z36z _⟩
noncomputable def z16z [Fuel]:ywYy:=@z16z_ yfsy
def ypgy (g:ywYy):Spec A:=fun args=>match args with | [.arr 142 a1]=>fun k=>g a1 (fun z0=>k (.arr 142 z0) [.undef]) | _=>fun _=>none
def ylny:SSt:=mkSh 45 1 [(0,.own 142 0),(7,.int .i64),(8,.int .i64)] [(0,.row 142)]
def yf6y (g:C_z16z) (n:Nat):LPT A:=fun ps=>match ps with | [.d (.int .i64 p1),.d (.int .i64 p2),.d (.sl 142 p3)]=>fun K=>z16z_L3 g n p1 p2 p3 (fun z0=>K (.exit 0) (mkSt 45 1 [(0,.own 142 0)] [(0,some (.row 142 z0))])) | _=>fun _=>none
noncomputable def yAfy:Code:=(Tryz.f87.body).getD .skip
noncomputable def yrSy (g:C_z16z):Env A:=mkE [(143,ykey g.z36z)] [] [(3,⟨[0,7,8],[],[0],[],[],[],[]⟩)] [(3,⟨[0],[],[0],[],[],[],[]⟩)] [(3,yajy ylny (yf6y g g.N))] [] [] [] [(143,0)] []
theorem yKUy [Fuel]:yaky (yrSy yfsy).C:=ct_of (P:=Tryz.prog) (T:=T) (.cons yA5y .nil) (by kernel_rfl)
noncomputable def yrQy:Code:=sub [1,1,0,1,0,0] yAfy
theorem yFNy (g:C_z16z) (n:Nat):yaoy (yrSy g) g.N yrQy ylny (yf6y g) n:=by intro ps;unfold yf6y;split;exact .inr fun R K=>(by kernel_rfl);exact .inl fun R K=>rfl
theorem yCHy [Fuel]:yagy (yrSy yfsy) NN yrQy:=yaly ylny (yf6y yfsy) (by kernel_rfl) yKUy (cuts0 (fun _=>rfl) (by kernel_rfl)) (fun ps R K=>by unfold yf6y;split <;> (try unfold z16z_L3) <;> rfl) (yFNy yfsy)
theorem yIZy (g:C_z16z):Same (ypgy (@z16z_ g)) (abody (yrSy g) Tryz.f87 yAfy 1 [0] [.arr 142] g.N):=by intro args;unfold ypgy;split;exact .inr fun R k=>(by kernel_rfl);exact .inl fun R k=>rfl
theorem yBEy [Fuel]:Ok 87 (ypgy (@z16z _)):=yacy std (.cons yA5y .nil) ⟨rfl,rfl,by kernel_rfl,rfl,rfl,rfl⟩ (yIZy yfsy) (cutsL (fun _=>rfl) (.cons yCHy .nil) (by kernel_rfl)) Tryz.func87 (by kernel_rfl) (by kernel_rfl)
abbrev yi5y:Type 1:=List G_Entrant→List UInt8→{R:Type}→(List G_Place→Int→Option R)→Option R
structure C_club_Table where
 N:Nat
 kit_IsKey:ybDy
 z27z:yxgy
 z16z:ywYy
def ycuy (g:C_club_Table):Nat→List UInt8→List G_Entrant→Int→Int→List G_Place→{R:Type}→(List G_Place→Option R)→Option R
 | 0,_,_,_,_,_,_,_=>none
 | n + 1,v5,v6,v7,v8,v9,_,e0=>(bif (decide (v8 < v7)) then (get_ v6 v8 fun x11=>(bif (x11.f_Category == v5) then (bif (decide ((v9.length + [(⟨0,x11.f_Points,x11.f_Call⟩:G_Place)].length) * 32≤yady)) then ycuy g n v5 v6 v7 (w64 (v8 + 1)) (v9++[(⟨0,x11.f_Points,x11.f_Call⟩:G_Place)]) e0 else none) else ycuy g n v5 v6 v7 (w64 (v8 + 1)) v9 e0)) else e0 v9)
def yjTy (g:C_club_Table) (a1:List G_Entrant) (a2:List UInt8) {R:Type} (k0:List G_Place→Int→Option R):Option R :=
 (g.z27z a1 (fun r3=>(bif (r3 != 0) then k0 [] r3 else (g.kit_IsKey a2 (fun r4=>(bif (!r4) then k0 [] 5 else (ycuy g g.N a2 a1 (a1.length:Int) 0 [] (fun e12=>(g.z16z e12 (fun r13=>k0 r13 0))))))))))
noncomputable def ybky [Fuel]:C_club_Table:=⟨NN,@kit_IsKey _,@z27z _,@z16z _⟩
noncomputable def club_Table [Fuel]:yi5y:=@yjTy ybky
def yeGy (g:yi5y):Spec A:=fun args=>match args with | [.d (.sl 98 a1),.d (.str a2)]=>fun k=>g a1 a2 (fun z0 z1=>k (.tup [.arr 142 z0,.d (.int .i64 z1)]) [.undef,.undef]) | _=>fun _=>none
def yeOy:SSt:=mkSh 39 5 [(1,.str),(7,.own 142 0),(18,.sl 98),(19,.int .i64),(20,.int .i64)] [(0,.row 142)]
def ycgy (g:C_club_Table) (n:Nat):LPT A:=fun ps=>match ps with | [.d (.str p1),.d (.sl 98 p2),.d (.int .i64 p3),.d (.int .i64 p4),.d (.sl 142 p5)]=>fun K=>ycuy g n p1 p2 p3 p4 p5 (fun z0=>K (.exit 0) (mkSt 39 5 [(7,.own 142 0)] [(0,some (.row 142 z0))])) | _=>fun _=>none
noncomputable def yAby:Code:=(Tryz.f39.body).getD .skip
noncomputable def yfvy (g:C_club_Table):Env A:=mkE [(80,ybiy g.kit_IsKey),(86,ypky g.z27z),(87,ypgy g.z16z)] [(9,[1]),(34,[2]),(35,[3]),(38,[4])] [(8,⟨[1,7,18,19,20],[(7,142,0)],[],[],[],[],[]⟩)] [(8,⟨[7],[],[0],[],[],[],[]⟩)] [(8,yajy yeOy (ycgy g g.N))] [] [] [] [(87,0)] []
theorem yuWy [Fuel]:yaky (yfvy ybky).C:=ct_of (P:=Tryz.prog) (T:=T) (.cons yaVy (.cons yAgy (.cons yBEy .nil))) (by kernel_rfl)
noncomputable def yiQy:Code:=sub [1,1,1,1,0,1,0,0] yAby
theorem yrCy (g:C_club_Table) (n:Nat):yaoy (yfvy g) g.N yiQy yeOy (ycgy g) n:=by intro ps;unfold ycgy;split;exact .inr fun R K=>(by kernel_rfl);exact .inl fun R K=>rfl
theorem yqay [Fuel]:yagy (yfvy ybky) NN yiQy:=yaly yeOy (ycgy ybky) (by kernel_rfl) yuWy (cuts0 (fun _=>rfl) (by kernel_rfl)) (fun ps R K=>by unfold ycgy;split <;> (try unfold ycuy) <;> rfl) (yrCy ybky)
theorem yuQy (g:C_club_Table):Same (yeGy (@yjTy g)) (abody (yfvy g) Tryz.f39 yAby 5 [] [.arr 142,.asis] g.N):=by intro args;unfold yeGy;split;exact .inr fun R k=>(by kernel_rfl);exact .inl fun R k=>rfl
theorem yuSy [Fuel]:Ok 39 (yeGy (@club_Table _)):=yacy std (.cons yaVy (.cons yAgy (.cons yBEy .nil))) ⟨rfl,rfl,by kernel_rfl,rfl,rfl,rfl⟩ (yuQy ybky) (cutsL (fun _=>rfl) (.cons yqay .nil) (by kernel_rfl)) Tryz.func39 (by kernel_rfl) (by kernel_rfl)
abbrev ynOy:Type 1:=G_Contact→{R:Type}→(G_Contact→Option R)→Option R
def yyCy (g:Nat) (a1:G_Contact) {R:Type} (k0:G_Contact→Option R):Option R :=
 k0 (⟨a1.f_At,a1.f_Mode,a1.f_Band,a1.f_Call,0,0,[],[]⟩:G_Contact)
noncomputable def net_key [Fuel]:ynOy:=@yyCy NN
def yiby (g:ynOy):Spec A:=fun args=>match args with | [.agg [.d (.int .i64 a1),.d (.int .i64 a2),.d (.str a3),.d (.str a4),.d (.int .i64 a5),.d (.int .i64 a6),.d (.str a7),.d (.str a8)]]=>fun k=>g ⟨a1,a2,a3,a4,a5,a6,a7,a8⟩ (fun z0=>k (.agg [.d (.int .i64 z0.f_At),.d (.int .i64 z0.f_Mode),.d (.str z0.f_Band),.d (.str z0.f_Call),.d (.int .i64 z0.f_Sent),.d (.int .i64 z0.f_Heard),.d (.str z0.f_Gave),.d (.str z0.f_Got)]) [.undef]) | _=>fun _=>none
noncomputable def yF2y:Code:=(Tryz.f209.body).getD .skip
noncomputable def yEgy (g:Nat):Env A:=mkE [] [(1,[0]),(2,[1])] [] [] [] [] [] [] [] []
theorem yCyy (g:Nat):Same (yiby (@yyCy g)) (abody (yEgy g) Tryz.f209 yF2y 2 [] [.asis] g):=by intro args;unfold yiby;split;exact .inr fun R k=>(by kernel_rfl);exact .inl fun R k=>rfl
theorem yspy [Fuel]:Ok 209 (yiby (@net_key _)):=yacy std .nil ⟨rfl,rfl,by kernel_rfl,rfl,rfl,rfl⟩ (yCyy NN) (cuts0 (fun _=>rfl) (by kernel_rfl)) Tryz.func209 (by kernel_rfl) (by kernel_rfl)
abbrev yvOy:Type 1:=List G_Contact→{R:Type}→(List G_Contact→Option R)→Option R
noncomputable def z37z [Fuel]:yvOy:=@ybOy G_Contact (@z49z _)
def ykdy (g:yvOy):Spec A:=fun args=>match args with | [.arr 49 a1,.fn 132 []]=>fun k=>g a1 (fun z=>k (.tup []) [.arr 49 z,.fn 132 []]) | _=>fun _=>none
theorem yBLy [Fuel] (xs:List (A 49)) (R:Type) (k:IV A→List (IV A)→Option R):ykdy (@z37z _) [.arr 49 xs,.fn 132 []] k = ybOy (α:=A 49) (@z49z _) xs (fun z=>k (.tup []) [.arr 49 z,.fn 132 []]):=by kernel_rfl
theorem yBXy [Fuel] (args:List (IV A)) (R:Type) (k:IV A→List (IV A)→Option R) (h:∀ xs:List (A 49),args≠[.arr 49 xs,.fn 132 []]):ykdy (@z37z _) args k = none:=by unfold ykdy;split;exact absurd rfl (h _);rfl
theorem yISy [Fuel] (x y:A 49) (R:Type) (k:Int→Option R):ykBy T (ye9y (@z49z _)) 49 x y k = @z49z _ x y R k:=by kernel_rfl
theorem yJ1y (x:G_Contact):(yoNy x).all scal = true:=rfl
theorem yA4y [Fuel]:Ok 210 (ykdy (@z37z _)):=⟨yg4y (tyOk Tryz.prog) (e:=49) Tryz.sortf210 Tryz.isAgg49 Tryz.sizeOf49 (fun x d hd=>List.all_eq_true.1 (yJ1y x) d hd) yISy yvvy.fs yvvy.en yBLy yBXy,yl3y (e:=49) yBLy yBXy,enters_of (fn:=Tryz.f210) Tryz.func210 (by kernel_rfl) (by kernel_rfl)⟩
abbrev yyxy:Type 1:=List G_Deed→Int→{R:Type}→(Int→Option R)→(List G_Deed→List G_Contact→List (List UInt8)→List Int→List (G_net_own×Bool)→Int→Option R)→Option R
structure C_z25z where
 N:Nat
 z12z:yq3y
 net_key:ynOy
 z37z:yvOy
def z25z_L4 (g:C_z25z):Nat→List G_Deed→Int→Int→List (G_net_own×Bool)→List (G_Contact×G_Deed)→List Int→List G_Deed→List G_Contact→List (List UInt8)→List Int→{R:Type}→(List (G_net_own×Bool)→List (G_Contact×G_Deed)→List G_Deed→List G_Contact→List (List UInt8)→List Int→Option R)→Option R
 | 0,_,_,_,_,_,_,_,_,_,_,_,_=>none
 | n + 1,v4,v5,v6,v7,v8,v9,v10,v11,v12,v13,_,e0=>(bif (decide (v6 < v5)) then (inr v9 v6 (at_ v9 v6 fun x26=>(get_ v4 x26 fun x27=>(bif (decide ((v10.length + [x27].length) * 176≤yady)) then (bif (x27.f_Kind == 3) then (bif (x27.f_Kind != 1) then z25z_L4 g n v4 v5 (w64 (v6 + 1)) (yaQy (⟨x27.f_Site,x27.f_Contact.f_Sent⟩:G_net_own) true v7) v8 v9 (v10++[x27]) v11 v12 v13 e0 else (g.net_key x27.f_Contact (fun r28=>(bif (yaPy r28 v8).isSome then (bif (decide ((v13.length + [x26].length) * 8≤yady)) then z25z_L4 g n v4 v5 (w64 (v6 + 1)) (yaQy (⟨x27.f_Site,x27.f_Contact.f_Sent⟩:G_net_own) true v7) v8 v9 (v10++[x27]) v11 v12 (v13++[x26]) e0 else none) else (g.net_key x27.f_Contact (fun r29=>(bif (decide ((v11.length + [x27.f_Contact].length) * 96≤yady)) then z25z_L4 g n v4 v5 (w64 (v6 + 1)) (yaQy (⟨x27.f_Site,x27.f_Contact.f_Sent⟩:G_net_own) true v7) (ya7y r29 x27 v8) v9 (v10++[x27]) (v11++[x27.f_Contact]) v12 v13 e0 else none))))))) else (bif (x27.f_Kind == 4) then (bif (x27.f_Kind == 4) then (bif (x27.f_Kind != 1) then z25z_L4 g n v4 v5 (w64 (v6 + 1)) (yaXy (⟨x27.f_Site,x27.f_Contact.f_Sent⟩:G_net_own) v7) v8 v9 (v10++[x27]) v11 v12 v13 e0 else (g.net_key x27.f_Contact (fun r30=>(bif (yaPy r30 v8).isSome then (bif (decide ((v13.length + [x26].length) * 8≤yady)) then z25z_L4 g n v4 v5 (w64 (v6 + 1)) (yaXy (⟨x27.f_Site,x27.f_Contact.f_Sent⟩:G_net_own) v7) v8 v9 (v10++[x27]) v11 v12 (v13++[x26]) e0 else none) else (g.net_key x27.f_Contact (fun r31=>(bif (decide ((v11.length + [x27.f_Contact].length) * 96≤yady)) then z25z_L4 g n v4 v5 (w64 (v6 + 1)) (yaXy (⟨x27.f_Site,x27.f_Contact.f_Sent⟩:G_net_own) v7) (ya7y r31 x27 v8) v9 (v10++[x27]) (v11++[x27.f_Contact]) v12 v13 e0 else none))))))) else (bif (x27.f_Kind != 1) then z25z_L4 g n v4 v5 (w64 (v6 + 1)) v7 v8 v9 (v10++[x27]) v11 v12 v13 e0 else (g.net_key x27.f_Contact (fun r32=>(bif (yaPy r32 v8).isSome then (bif (decide ((v13.length + [x26].length) * 8≤yady)) then z25z_L4 g n v4 v5 (w64 (v6 + 1)) v7 v8 v9 (v10++[x27]) v11 v12 (v13++[x26]) e0 else none) else (g.net_key x27.f_Contact (fun r33=>(bif (decide ((v11.length + [x27.f_Contact].length) * 96≤yady)) then z25z_L4 g n v4 v5 (w64 (v6 + 1)) v7 (ya7y r33 x27 v8) v9 (v10++[x27]) (v11++[x27.f_Contact]) v12 v13 e0 else none)))))))) else (bif (x27.f_Kind == 1) then (bif (x27.f_Kind != 1) then z25z_L4 g n v4 v5 (w64 (v6 + 1)) (yaXy (⟨x27.f_Site,x27.f_Contact.f_Sent⟩:G_net_own) v7) v8 v9 (v10++[x27]) v11 v12 v13 e0 else (g.net_key x27.f_Contact (fun r34=>(bif (yaPy r34 v8).isSome then (bif (decide ((v13.length + [x26].length) * 8≤yady)) then z25z_L4 g n v4 v5 (w64 (v6 + 1)) (yaXy (⟨x27.f_Site,x27.f_Contact.f_Sent⟩:G_net_own) v7) v8 v9 (v10++[x27]) v11 v12 (v13++[x26]) e0 else none) else (g.net_key x27.f_Contact (fun r35=>(bif (decide ((v11.length + [x27.f_Contact].length) * 96≤yady)) then z25z_L4 g n v4 v5 (w64 (v6 + 1)) (yaXy (⟨x27.f_Site,x27.f_Contact.f_Sent⟩:G_net_own) v7) (ya7y r35 x27 v8) v9 (v10++[x27]) (v11++[x27.f_Contact]) v12 v13 e0 else none))))))) else (bif (x27.f_Kind != 1) then z25z_L4 g n v4 v5 (w64 (v6 + 1)) v7 v8 v9 (v10++[x27]) v11 v12 v13 e0 else (g.net_key x27.f_Contact (fun r36=>(bif (yaPy r36 v8).isSome then (bif (decide ((v13.length + [x26].length) * 8≤yady)) then z25z_L4 g n v4 v5 (w64 (v6 + 1)) v7 v8 v9 (v10++[x27]) v11 v12 (v13++[x26]) e0 else none) else (g.net_key x27.f_Contact (fun r37=>(bif (decide ((v11.length + [x27.f_Contact].length) * 96≤yady)) then z25z_L4 g n v4 v5 (w64 (v6 + 1)) v7 (ya7y r37 x27 v8) v9 (v10++[x27]) (v11++[x27.f_Contact]) v12 v13 e0 else none)))))))))) else none)))) else e0 v7 v8 v10 v11 v12 v13)
def z25z_L25 (g:C_z25z):Nat→Int→Int→List (G_net_own×Bool)→List (G_Contact×G_Deed)→List G_Deed→List G_Contact→List (List UInt8)→List Int→{R:Type}→(List (G_net_own×Bool)→List G_Deed→List G_Contact→List (List UInt8)→List Int→Option R)→Option R
 | 0,_,_,_,_,_,_,_,_,_,_=>none
 | n + 1,v45,v46,v47,v48,v49,v50,v51,v52,_,e0=>(bif (decide (v46 < v45)) then (inr v50 v46 (at_ v50 v46 fun x55=>(g.net_key x55 (fun r56=>(bif (decide ((v51.length + [((yaPy r56 v48).getD (⟨[],0,0,0,(⟨0,0,[],[],0,0,[],[]⟩:G_Contact),[],[],0⟩:G_Deed)).f_Site].length) * 16≤yady)) then z25z_L25 g n v45 (w64 (v46 + 1)) v47 v48 v49 v50 (v51++[((yaPy r56 v48).getD (⟨[],0,0,0,(⟨0,0,[],[],0,0,[],[]⟩:G_Contact),[],[],0⟩:G_Deed)).f_Site]) v52 e0 else none))))) else e0 v47 v49 v50 v51 v52)
def z25z_ (g:C_z25z) (a1:List G_Deed) (a2:Int) {R:Type} (k0:Int→Option R) (k1:List G_Deed→List G_Contact→List (List UInt8)→List Int→List (G_net_own×Bool)→Int→Option R):Option R :=
 (g.z12z a1 a2 (fun r3=>(z25z_L4 g g.N a1 (r3.length:Int) 0 [] [] r3 [] [] [] [] (fun e38 e39 e40 e41 e42 e43=>(bif (decide ((e41.length:Int) > 2000)) then k0 2 else (g.z37z e41 (fun r44=>(z25z_L25 g g.N (r44.length:Int) 0 e38 e39 e40 r44 e42 e43 (fun e57 e58 e59 e60 e61=>k1 e58 e59 e60 e61 e57 0)))))))))
noncomputable def ycjy [Fuel]:C_z25z:=⟨NN,@z12z _,@net_key _,@z37z _⟩
noncomputable def z25z [Fuel]:yyxy:=@z25z_ ycjy
def youy (g:yyxy):Spec A:=fun args=>match args with | [.d (.sl 51 a1),.d (.int .i64 a2)]=>fun k=>g a1 a2 (fun z0=>k (.tup [.d (.lit (.pointer none)),.d (.int .i64 z0)]) [.undef,.undef]) (fun z0 z1 z2 z3 z4 z5=>k (.tup [.box [.arr 51 z0,.arr 49 z1,.arr 9 z2,.arr 3 z3,.mp 107 4 z4],.d (.int .i64 z5)]) [.undef,.undef]) | _=>fun _=>none
def ylZy:SSt:=mkSh 143 23 [(0,.sl 51),(6,.ptr 1 0),(7,.mp 2),(21,.own 3 3),(22,.int .i64),(23,.int .i64)] [(0,.mp 107 4),(1,.box [.own 51 4,.own 49 5,.own 9 6,.own 3 7,.mp 0]),(2,.mp 49 51),(3,.row 3),(4,.row 51),(5,.row 49),(6,.row 9),(7,.row 3)]
def yf1y (g:C_z25z) (n:Nat):LPT A:=fun ps=>match ps with | [.d (.sl 51 p1),.d (.int .i64 p2),.d (.int .i64 p3),.mp 107 4 p4,.mp 49 51 p5,.d (.sl 3 p6),.d (.sl 51 p7),.d (.sl 49 p8),.d (.sl 9 p9),.d (.sl 3 p10)]=>fun K=>z25z_L4 g n p1 p2 p3 p4 p5 p6 p7 p8 p9 p10 (fun z0 z1 z2 z3 z4 z5=>K (.exit 0) (mkSt 143 23 [(6,.ptr 1 0),(7,.mp 2)] [(0,some (.mp 107 4 z0)),(1,some (.box [.own 51 4,.own 49 5,.own 9 6,.own 3 7,.mp 0])),(2,some (.mp 49 51 z1)),(4,some (.row 51 z2)),(5,some (.row 49 z3)),(6,some (.row 9 z4)),(7,some (.row 3 z5))])) | _=>fun _=>none
def yjHy:SSt:=mkSh 143 23 [(6,.ptr 1 0),(7,.mp 2),(121,.own 49 17),(122,.int .i64),(123,.int .i64)] [(0,.mp 107 4),(1,.box [.own 51 16,.own 49 17,.own 9 18,.own 3 19,.mp 0]),(2,.mp 49 51),(16,.row 51),(17,.row 49),(18,.row 9),(19,.row 3)]
def yepy (g:C_z25z) (n:Nat):LPT A:=fun ps=>match ps with | [.d (.int .i64 p1),.d (.int .i64 p2),.mp 107 4 p3,.mp 49 51 p4,.d (.sl 51 p5),.d (.sl 49 p6),.d (.sl 9 p7),.d (.sl 3 p8)]=>fun K=>z25z_L25 g n p1 p2 p3 p4 p5 p6 p7 p8 (fun z0 z1 z2 z3 z4=>K (.exit 3) (mkSt 143 23 [(6,.ptr 1 0)] [(0,some (.mp 107 4 z0)),(1,some (.box [.own 51 16,.own 49 17,.own 9 18,.own 3 19,.mp 0])),(16,some (.row 51 z1)),(17,some (.row 49 z2)),(18,some (.row 9 z3)),(19,some (.row 3 z4))])) | _=>fun _=>none
noncomputable def yqzy:Code:=(Tryz.f145.body).getD .skip
noncomputable def ykHy (g:C_z25z):Env A:=mkE [(50,ydzy g.z12z),(209,yiby g.net_key),(210,ykdy g.z37z)] [(10,[8]),(11,[11]),(14,[20]),(15,[0]),(17,[1]),(18,[2]),(21,[3]),(37,[9]),(38,[10]),(86,[12]),(87,[13]),(102,[14]),(103,[15]),(137,[21]),(138,[22])] [(4,⟨[0,6,7,21,22,23],[],[0,1,2,3],[(1,0,51,4),(1,1,49,5),(1,2,9,6),(1,3,3,7)],[],[],[]⟩),(25,⟨[6,7,121,122,123],[],[0,1,2],[(1,0,51,16),(1,1,49,17),(1,2,9,18),(1,3,3,19)],[],[],[]⟩)] [(4,⟨[6,7],[],[0,1,2,4,5,6,7],[],[],[],[]⟩),(25,⟨[6],[],[0,1,16,17,18,19],[],[],[],[]⟩)] [(4,yajy ylZy (yf1y g g.N)),(25,yajy yjHy (yepy g g.N))] [] [] [] [(210,0)] []
theorem yApy [Fuel]:yaky (ykHy ycjy).C:=ct_of (P:=Tryz.prog) (T:=T) (.cons ys7y (.cons yspy (.cons yA4y .nil))) (by kernel_rfl)
noncomputable def yrsy:Code:=sub [1,1,1,0,1,0,0] yqzy
theorem yFjy (g:C_z25z) (n:Nat):yaoy (ykHy g) g.N yrsy ylZy (yf1y g) n:=by intro ps;unfold yf1y;split;exact .inr fun R K=>(by kernel_rfl);exact .inl fun R K=>rfl
theorem yDhy [Fuel]:yagy (ykHy ycjy) NN yrsy:=yaly ylZy (yf1y ycjy) (by kernel_rfl) yApy (cuts0 (fun _=>rfl) (by kernel_rfl)) (fun ps R K=>by unfold yf1y;split <;> (try unfold z25z_L4) <;> rfl) (yFjy ycjy)
noncomputable def ypTy:Code:=sub [1,1,1,1,1,1,0,1,0,0] yqzy
theorem yCDy (g:C_z25z) (n:Nat):yaoy (ykHy g) g.N ypTy yjHy (yepy g) n:=by intro ps;unfold yepy;split;exact .inr fun R K=>(by kernel_rfl);exact .inl fun R K=>rfl
theorem yy4y [Fuel]:yagy (ykHy ycjy) NN ypTy:=yaly yjHy (yepy ycjy) (by kernel_rfl) yApy (cuts0 (fun _=>rfl) (by kernel_rfl)) (fun ps R K=>by unfold yepy;split <;> (try unfold z25z_L25) <;> rfl) (yCDy ycjy)
theorem yLOy (g:C_z25z):Same (youy (@z25z_ g)) (abody (ykHy g) Tryz.f145 yqzy 23 [] [.asis,.asis] g.N):=by intro args;unfold youy;split;exact .inr fun R k=>(by kernel_rfl);exact .inl fun R k=>rfl
theorem yKLy [Fuel]:Ok 145 (youy (@z25z _)):=yacy std (.cons ys7y (.cons yspy (.cons yA4y .nil))) ⟨rfl,rfl,by kernel_rfl,rfl,rfl,rfl⟩ (yLOy ycjy) (cutsL (fun _=>rfl) (.cons yDhy (.cons yy4y .nil)) (by kernel_rfl)) Tryz.func145 (by kernel_rfl) (by kernel_rfl)
abbrev yywy:Type 1:=List G_Deed→Int→{R:Type}→(Int→Option R)→(List G_Deed→List G_Contact→List (List UInt8)→List Int→List (G_net_own×Bool)→Int→Option R)→Option R
structure C_z81z where
 N:Nat
 z65z:ysTy
 z25z:yyxy
def z81z_ (g:C_z81z) (a1:List G_Deed) (a2:Int) {R:Type} (k0:Int→Option R) (k1:List G_Deed→List G_Contact→List (List UInt8)→List Int→List (G_net_own×Bool)→Int→Option R):Option R :=
 (g.z65z a1 a2 (fun r3=>(bif (r3 != 0) then k0 r3 else (g.z25z a1 a2 (fun r4=>k0 r4) (fun r5 r6 r7 r8 r9 r10=>k1 r5 r6 r7 r8 r9 r10)))))
noncomputable def yssy [Fuel]:C_z81z:=⟨NN,@z65z _,@z25z _⟩
noncomputable def z81z [Fuel]:yywy:=@z81z_ yssy
def ypcy (g:yywy):Spec A:=fun args=>match args with | [.d (.sl 51 a1),.d (.int .i64 a2)]=>fun k=>g a1 a2 (fun z0=>k (.tup [.d (.lit (.pointer none)),.d (.int .i64 z0)]) [.undef,.undef]) (fun z0 z1 z2 z3 z4 z5=>k (.tup [.box [.arr 51 z0,.arr 49 z1,.arr 9 z2,.arr 3 z3,.mp 107 4 z4],.d (.int .i64 z5)]) [.undef,.undef]) | _=>fun _=>none
noncomputable def yI4y:Code:=(Tryz.f88.body).getD .skip
noncomputable def yNFy (g:C_z81z):Env A:=mkE [(49,ykRy g.z65z),(145,youy g.z25z)] [(15,[0,1,2,3,4,5])] [] [] [] [] [] [] [] []
theorem yLby (g:C_z81z):Same (ypcy (@z81z_ g)) (abody (yNFy g) Tryz.f88 yI4y 6 [] [.asis,.asis] g.N):=by intro args;unfold ypcy;split;exact .inr fun R k=>(by kernel_rfl);exact .inl fun R k=>rfl
theorem yLXy [Fuel]:Ok 88 (ypcy (@z81z _)):=yacy std (.cons yBvy (.cons yKLy .nil)) ⟨rfl,rfl,by kernel_rfl,rfl,rfl,rfl⟩ (yLby yssy) (cuts0 (fun _=>rfl) (by kernel_rfl)) Tryz.func88 (by kernel_rfl) (by kernel_rfl)
abbrev yvdy:Type 1:={R:Type}→Option R
def z82z_ (g:Nat)  {R:Type}  : Option R :=
 none
noncomputable def z82z [Fuel]:yvdy:=@z82z_ NN
def yoby (g:yvdy):Spec A:=fun args=>match args with | [.d (.lit (.pointer none))]=>fun k=>g | _=>fun _=>none
noncomputable def ymly:Code:=(Tryz.f146.body).getD .skip
noncomputable def yFky (g:Nat):Env A:=mkE [] [(6,[0])] [] [] [] [] [] [] [] []
noncomputable def yC4y:Code:=sub [1,1,0,1,0,0] ymly
theorem yDdy [Fuel]:yagy (yFky NN) NN yC4y:=yooy (by kernel_rfl)
theorem yIUy (g:Nat):Same (yoby (@z82z_ g)) (abody (yFky g) Tryz.f146 ymly 1 [] [.asis] g):=by intro args;unfold yoby;split;exact .inr fun R k=>(by kernel_rfl);exact .inl fun R k=>rfl
theorem yLHy [Fuel]:Ok 146 (yoby (@z82z _)):=yacy std .nil ⟨rfl,rfl,by kernel_rfl,rfl,rfl,rfl⟩ (yIUy NN) (cutsL (fun _=>rfl) (.cons yDdy .nil) (by kernel_rfl)) Tryz.func146 (by kernel_rfl) (by kernel_rfl)
abbrev yu8y:Type 1:={R:Type}→Option R
structure C_z67z where
 N:Nat
 z82z:yvdy
def z67z_ (g:C_z67z)  {R:Type}  : Option R :=
 (g.z82z)
noncomputable def ywjy [Fuel]:C_z67z:=⟨NN,@z82z _⟩
noncomputable def z67z [Fuel]:yu8y:=@z67z_ ywjy
def yosy (g:yu8y):Spec A:=fun args=>match args with | [.d (.lit (.pointer none))]=>fun k=>g | _=>fun _=>none
noncomputable def yoly:Code:=(Tryz.f89.body).getD .skip
noncomputable def yFry (g:C_z67z):Env A:=mkE [(146,yoby g.z82z)] [] [] [] [] [] [] [] [] []
noncomputable def yCly:Code:=sub [1,1,0,1,0,0] yoly
theorem yCTy [Fuel]:yagy (yFry ywjy) NN yCly:=yooy (by kernel_rfl)
theorem yIVy (g:C_z67z):Same (yosy (@z67z_ g)) (abody (yFry g) Tryz.f89 yoly 0 [] [.asis,.asis] g.N):=by intro args;unfold yosy;split;exact .inr fun R k=>(by kernel_rfl);exact .inl fun R k=>rfl
theorem yJ5y [Fuel]:Ok 89 (yosy (@z67z _)):=yacy std (.cons yLHy .nil) ⟨rfl,rfl,by kernel_rfl,rfl,rfl,rfl⟩ (yIVy ywjy) (cutsL (fun _=>rfl) (.cons yCTy .nil) (by kernel_rfl)) Tryz.func89 (by kernel_rfl) (by kernel_rfl)
abbrev yvfy:Type 1:=List G_Deed→List G_Contact→List (List UInt8)→List Int→List (G_net_own×Bool)→{R:Type}→(List (Int×Int)→List G_Deed→List G_Contact→List (List UInt8)→List Int→List (G_net_own×Bool)→Option R)→Option R
def z34z_L3 (g:Nat):Nat→Int→Int→List (G_net_own×Bool)→List (Int×Int)→List G_Deed→List G_Contact→List (List UInt8)→List Int→{R:Type}→(List (G_net_own×Bool)→List (Int×Int)→List G_Deed→List G_Contact→List (List UInt8)→List Int→Option R)→Option R
 | 0,_,_,_,_,_,_,_,_,_,_=>none
 | n + 1,v6,v7,v8,v9,v10,v11,v12,v13,_,e0=>(bif (decide (v7 < v6)) then (inr v11 v7 (at_ v11 v7 fun x15=>(bif (decide (x15.f_Sent > 0)) then z34z_L3 g n v6 (w64 (v7 + 1)) v8 (ydLy x15.f_Sent (w64 (((ycly x15.f_Sent v9).getD 0) + 1)) v9) v10 v11 v12 v13 e0 else z34z_L3 g n v6 (w64 (v7 + 1)) v8 v9 v10 v11 v12 v13 e0))) else e0 v8 v9 v10 v11 v12 v13)
def z34z_ (g:Nat) (a1:List G_Deed) (a2:List G_Contact) (a3:List (List UInt8)) (a4:List Int) (a5:List (G_net_own×Bool)) {R:Type} (k0:List (Int×Int)→List G_Deed→List G_Contact→List (List UInt8)→List Int→List (G_net_own×Bool)→Option R):Option R :=
 (z34z_L3 g g (a2.length:Int) 0 a5 [] a1 a2 a3 a4 (fun e16 e17 e18 e19 e20 e21=>k0 e17 e18 e19 e20 e21 e16))
noncomputable def z34z [Fuel]:yvfy:=@z34z_ NN
def yoxy (g:yvfy):Spec A:=fun args=>match args with | [.box [.arr 51 a1,.arr 49 a2,.arr 9 a3,.arr 3 a4,.mp 107 4 a5]]=>fun k=>g a1 a2 a3 a4 a5 (fun z0 z1 z2 z3 z4 z5=>k (.mp 3 3 z0) [.box [.arr 51 z1,.arr 49 z2,.arr 9 z3,.arr 3 z4,.mp 107 4 z5]]) | _=>fun _=>none
def yljy:SSt:=mkSh 26 12 [(0,.ptr 0 0),(3,.mp 6),(10,.own 49 8),(11,.int .i64),(12,.int .i64)] [(0,.box [.own 51 7,.own 49 8,.own 9 9,.own 3 10,.mp 5]),(5,.mp 107 4),(6,.mp 3 3),(7,.row 51),(8,.row 49),(9,.row 9),(10,.row 3)]
def yfDy (g:Nat) (n:Nat):LPT A:=fun ps=>match ps with | [.d (.int .i64 p1),.d (.int .i64 p2),.mp 107 4 p3,.mp 3 3 p4,.d (.sl 51 p5),.d (.sl 49 p6),.d (.sl 9 p7),.d (.sl 3 p8)]=>fun K=>z34z_L3 g n p1 p2 p3 p4 p5 p6 p7 p8 (fun z0 z1 z2 z3 z4 z5=>K (.exit 0) (mkSt 26 12 [(0,.ptr 0 0),(3,.mp 6)] [(0,some (.box [.own 51 7,.own 49 8,.own 9 9,.own 3 10,.mp 5])),(5,some (.mp 107 4 z0)),(6,some (.mp 3 3 z1)),(7,some (.row 51 z2)),(8,some (.row 49 z3)),(9,some (.row 9 z4)),(10,some (.row 3 z5))])) | _=>fun _=>none
noncomputable def yq4y (g:Nat):Env A:=mkE [] [(5,[11]),(6,[6])] [(3,⟨[0,3,10,11,12],[],[0,5,6],[(0,0,51,7),(0,1,49,8),(0,2,9,9),(0,3,3,10)],[],[],[]⟩)] [(3,⟨[0,3],[],[0,5,6,7,8,9,10],[],[],[],[]⟩)] [(3,yajy yljy (yfDy g g))] [] [] [] [] [0]
theorem yJUy [Fuel]:yaky (yq4y NN).C:=ct_of (P:=Tryz.prog) (T:=T) .nil (by kernel_rfl)
noncomputable def yrwy:Code:=sub [1,1,0,1,0,0] ymly
theorem yEAy (g:Nat) (n:Nat):yaoy (yq4y g) g yrwy yljy (yfDy g) n:=by intro ps;unfold yfDy;split;exact .inr fun R K=>(by kernel_rfl);exact .inl fun R K=>rfl
theorem yCzy [Fuel]:yagy (yq4y NN) NN yrwy:=yaly yljy (yfDy NN) (by kernel_rfl) yJUy (cuts0 (fun _=>rfl) (by kernel_rfl)) (fun ps R K=>by unfold yfDy;split <;> (try unfold z34z_L3) <;> rfl) (yEAy NN)
theorem yKpy (g:Nat):Same (yoxy (@z34z_ g)) (abody (yq4y g) Tryz.f146 ymly 12 [0,1,2,3,4,5] [.asis] g):=by intro args;unfold yoxy;split;exact .inr fun R k=>(by kernel_rfl);exact .inl fun R k=>rfl
theorem yBYy [Fuel]:Ok 146 (yoxy (@z34z _)):=yacy std .nil ⟨rfl,rfl,by kernel_rfl,rfl,rfl,rfl⟩ (yKpy NN) (cutsL (fun _=>rfl) (.cons yCzy .nil) (by kernel_rfl)) Tryz.func146 (by kernel_rfl) (by kernel_rfl)
end Go.Am
