/- The functions of the program as Lean functions, each shown to be what the code computes, part 8. No condition: lemmas for the claim. -/
import Derived.Test.YtmhbhdhddlbdlaaGreatDoorF0
import Derived.Test.YtmhbhdhddlbdlaaGreatDoorFSh
import Derived.Test.YtmhbhdhddlbdlaaGreatDoorF1
import Derived.Test.YtmhbhdhddlbdlaaGreatDoorF4
import Derived.Test.YtmhbhdhddlbdlaaGreatDoorF6
import Derived.Test.YtmhbhdhddlbdlaaGreatDoorF7
set_option linter.unusedVariables false
set_option maxRecDepth 100000
namespace Go.Am
open Go Go.Proofs
abbrev yuZy:Type 1:=List G_Entrant→{R:Type}→(Int→Option R)→Option R
structure C_z25z where
 N:Nat
 z45z:ydNy
 call_Is:ygJy
 z20z:ygXy
 strings_Compare:yaYy
 kit_IsKey:ybsy
 z79z:yvdy
def z25z_L4 (g:C_z25z):Nat→List G_Entrant→List G_Entrant→Int→Int→{R:Type}→(Int→Option R)→Option R→Option R
 | 0,_,_,_,_,_,_,_=>none
 | n + 1,v2,v3,v4,v5,_,e0,e1=>(bif (decide (v5 < v4)) then (get_ v3 v5 fun x21=>(g.call_Is x21.f_Call (fun r22=>(bif (!r22) then e0 3 else (g.kit_IsKey x21.f_Category (fun r23=>(bif (!r23) then e0 5 else (g.z45z x21.f_Points 0 1000000000000 (fun r24=>(bif r24 then e0 1 else (bif (!(x21.f_Locator == [])) then (g.z79z x21.f_Locator (fun r25=>(bif (!r25) then e0 3 else (bif (decide (v5 > 0)) then (get_ v2 (w64 (v5 - 1)) fun x26=>(get_ v2 (w64 (v5 - 1)) fun x27=>(g.strings_Compare x26.f_Category x21.f_Category (fun r28=>(g.strings_Compare x27.f_Call x21.f_Call (fun r29=>(g.z20z [r28,r29] (fun r30=>(bif (decide (r30 ≥ 0)) then e0 7 else z25z_L4 g n v2 v3 v4 (w64 (v5 + 1)) e0 e1))))))))) else z25z_L4 g n v2 v3 v4 (w64 (v5 + 1)) e0 e1)))) else (bif (decide (v5 > 0)) then (get_ v2 (w64 (v5 - 1)) fun x31=>(get_ v2 (w64 (v5 - 1)) fun x32=>(g.strings_Compare x31.f_Category x21.f_Category (fun r33=>(g.strings_Compare x32.f_Call x21.f_Call (fun r34=>(g.z20z [r33,r34] (fun r35=>(bif (decide (r35 ≥ 0)) then e0 7 else z25z_L4 g n v2 v3 v4 (w64 (v5 + 1)) e0 e1))))))))) else z25z_L4 g n v2 v3 v4 (w64 (v5 + 1)) e0 e1)))))))))))) else e1)
def z25z_ (g:C_z25z) (a1:List G_Entrant) {R:Type} (k0:Int→Option R):Option R :=
 (bif (decide ((a1.length:Int) > 500)) then k0 2 else (z25z_L4 g g.N a1 a1 (a1.length:Int) 0 (fun e36=>k0 e36) (k0 0)))
noncomputable def yjky [Fuel]:C_z25z:=⟨NN,@z45z _,@call_Is _,@z20z _,@strings_Compare _,@kit_IsKey _,@z79z _⟩
noncomputable def z25z [Fuel]:yuZy:=@z25z_ yjky
def ynzy (g:yuZy):Spec A:=fun args=>match args with | [.d (.sl 98 a1)]=>fun k=>g a1 (fun z0=>k (.d (.int .i64 z0)) [.undef]) | _=>fun _=>none
def yk0y:SSt:=mkSh 66 2 [(0,.sl 98),(8,.sl 98),(9,.int .i64),(10,.int .i64)] []
def yeQy (g:C_z25z) (n:Nat):LPT A:=fun ps=>match ps with | [.d (.sl 98 p1),.d (.sl 98 p2),.d (.int .i64 p3),.d (.int .i64 p4)]=>fun K=>z25z_L4 g n p1 p2 p3 p4 (fun z0=>K .ret (mkSt 66 2 [(2,.d (.int .i64 z0))] [])) (K (.exit 0) (mkSt 66 2 [] [])) | _=>fun _=>none
noncomputable def yzHy:Code:=(Tryz.f86.body).getD .skip
noncomputable def yqsy (g:C_z25z):Env A:=mkE [(63,ycvy g.z45z),(64,ydGy g.call_Is),(68,ybCy g.z20z),(70,yaBy g.strings_Compare),(80,ya9y g.kit_IsKey),(142,ymPy g.z79z)] [(4,[0]),(61,[1])] [(4,⟨[0,8,9,10],[],[],[],[],[],[]⟩)] [(4,⟨[2],[],[],[],[],[],[]⟩)] [(4,yafy yk0y (yeQy g g.N))] [] [] [] [] []
theorem yIzy [Fuel]:yagy (yqsy yjky).C:=ct_of (P:=Tryz.prog) (T:=T) (.cons yc5y (.cons ydEy (.cons ygdy (.cons ya7y (.cons yaRy (.cons yzuy .nil)))))) (by kernel_rfl)
noncomputable def yqby:Code:=sub [1,1,0,1,0,0] yzHy
theorem yDjy (g:C_z25z) (n:Nat):yaly (yqsy g) g.N yqby yk0y (yeQy g) n:=by intro ps; unfold yeQy; split; exact .inr fun R K=>(by kernel_rfl); exact .inl fun R K=>rfl
theorem yAIy [Fuel]:yaey (yqsy yjky) NN yqby:=yahy yk0y (yeQy yjky) (by kernel_rfl) yIzy (cuts0 (fun _=>rfl) (by kernel_rfl)) (fun ps R K=>by unfold yeQy; split <;> (try unfold z25z_L4) <;> rfl) (yDjy yjky)
theorem yHcy (g:C_z25z):Same (ynzy (@z25z_ g)) (abody (yqsy g) Tryz.f86 yzHy 2 [] [.asis] g.N):=by intro args; unfold ynzy; split; exact .inr fun R k=>(by kernel_rfl); exact .inl fun R k=>rfl
theorem yyHy [Fuel]:Ok 86 (ynzy (@z25z _)):=yaay std (.cons yc5y (.cons ydEy (.cons ygdy (.cons ya7y (.cons yaRy (.cons yzuy .nil)))))) ⟨rfl,rfl,by kernel_rfl,rfl,rfl,rfl⟩ (yHcy yjky) (cutsL (fun _=>rfl) (.cons yAIy .nil) (by kernel_rfl)) Tryz.func86 (by kernel_rfl) (by kernel_rfl)
abbrev yCdy:Type 1:=G_Place→G_Place→{R:Type}→(Int→Option R)→Option R
structure C_z42z where
 N:Nat
 z20z:ygXy
 z14z:ygLy
 strings_Compare:yaYy
def z42z_ (g:C_z42z) (a1 a2:G_Place) {R:Type} (k0:Int→Option R):Option R :=
 (g.z14z a2.f_Points a1.f_Points (fun r3=>(g.strings_Compare a1.f_Key a2.f_Key (fun r4=>(g.z20z [r3,r4] (fun r5=>k0 r5))))))
noncomputable def yvEy [Fuel]:C_z42z:=⟨NN,@z20z _,@z14z _,@strings_Compare _⟩
noncomputable def z42z [Fuel]:yCdy:=@z42z_ yvEy
def ygay (g:yCdy):Spec A:=fun args=>match args with | [.agg [.d (.int .i64 a1),.d (.int .i64 a2),.d (.str a3)],.agg [.d (.int .i64 a4),.d (.int .i64 a5),.d (.str a6)]]=>fun k=>g ⟨a1,a2,a3⟩ ⟨a4,a5,a6⟩ (fun z0=>k (.d (.int .i64 z0)) [.undef,.undef]) | _=>fun _=>none
noncomputable def yuty:Code:=(Tryz.f144.body).getD .skip
noncomputable def yLAy (g:C_z42z):Env A:=mkE [(68,ybCy g.z20z),(69,ybDy g.z14z),(70,yaBy g.strings_Compare)] [(2,[0]),(3,[1]),(15,[2])] [] [] [] [] [] [] [] []
theorem yIhy (g:C_z42z):Same (ygay (@z42z_ g)) (abody (yLAy g) Tryz.f144 yuty 3 [] [.asis] g.N):=by intro args; unfold ygay; split; exact .inr fun R k=>(by kernel_rfl); exact .inl fun R k=>rfl
theorem ok_z42z [Fuel]:Ok 144 (ygay (@z42z _)):=yaay std (.cons ygdy (.cons ygby (.cons ya7y .nil))) ⟨rfl,rfl,by kernel_rfl,rfl,rfl,rfl⟩ (yIhy yvEy) (cuts0 (fun _=>rfl) (by kernel_rfl)) Tryz.func144 (by kernel_rfl) (by kernel_rfl)
noncomputable def yGMy (g:C_z42z):Env A:=mkED [(68,ybCy g.z20z),(69,ybDy g.z14z),(70,yaBy g.strings_Compare)] [(2,[0]),(3,[1]),(15,[2])] [] [] [] [] [] [] [] []
theorem yE2y (g:C_z42z):Same (ygay (@z42z_ g)) (abody (yGMy g) Tryz.f144 yuty 3 [] [.asis] g.N):=by intro args; unfold ygay; split; exact .inr fun R k=>(by kernel_rfl); exact .inl fun R k=>rfl
theorem yt5y [Fuel]:OkD 144 (ygay (@z42z _)):=yaay stdD (.cons yoNy (.cons ypcy (.cons yc7y .nil))) ⟨rfl,rfl,by kernel_rfl,rfl,rfl,rfl⟩ (yE2y yvEy) (cuts0 (fun _=>rfl) (by kernel_rfl)) Tryz.func144 (by kernel_rfl) (by kernel_rfl)
abbrev ywXy:Type 1:=List G_Place→{R:Type}→(List G_Place→Option R)→Option R
noncomputable def z35z [Fuel]:ywXy:=@yboy G_Place (@z42z _)
def yjZy (g:ywXy):Spec A:=fun args=>match args with | [.arr 142 a1,.fn 144 []]=>fun k=>g a1 (fun z=>k (.tup []) [.arr 142 z,.fn 144 []]) | _=>fun _=>none
theorem yyCy [Fuel] (xs:List (A 142)) (R:Type) (k:IV A→List (IV A)→Option R):yjZy (@z35z _) [.arr 142 xs,.fn 144 []] k = yboy (α:=A 142) (@z42z _) xs (fun z=>k (.tup []) [.arr 142 z,.fn 144 []]):=by kernel_rfl
theorem yzyy [Fuel] (args:List (IV A)) (R:Type) (k:IV A→List (IV A)→Option R) (h:∀ xs:List (A 142),args ≠ [.arr 142 xs,.fn 144 []]):yjZy (@z35z _) args k = none:=by unfold yjZy; split; exact absurd rfl (h _); rfl
theorem yHky [Fuel] (x y:A 142) (R:Type) (k:Int→Option R):yjXy T (ygay (@z42z _)) 142 x y k = @z42z _ x y R k:=by kernel_rfl
theorem yIty (x:G_Place):(ykay x).all scal = true:=rfl
theorem yyvy [Fuel]:Ok 143 (yjZy (@z35z _)):=⟨ygfy (tyOk Tryz.prog) (e:=142) Tryz.sortf143 Tryz.isAgg142 Tryz.sizeOf142 (fun x d hd=>List.all_eq_true.1 (yIty x) d hd) yHky yt5y.fs yt5y.en yyCy yzyy,ykgy (e:=142) yyCy yzyy,enters_of (fn:=Tryz.f143) Tryz.func143 (by kernel_rfl) (by kernel_rfl)⟩
abbrev ytJy:Type 1:=List G_Place→{R:Type}→(List G_Place→Option R)→Option R
structure C_z13z where
 N:Nat
 z35z:ywXy
def z13z_L3 (g:C_z13z):Nat→Int→Int→List G_Place→{R:Type}→(List G_Place→Option R)→Option R
 | 0,_,_,_,_,_=>none
 | n + 1,v3,v4,v5,_,e0=>(bif (decide (v4 < v3)) then (inr v5 v4 (at_ v5 v4 fun x11=>(bif (decide (v4 > 0)) then (inr (set_ v5 v4 (⟨(w64 (v4 + 1)),x11.f_Points,x11.f_Key⟩:G_Place)) v4 (at_ (set_ v5 v4 (⟨(w64 (v4 + 1)),x11.f_Points,x11.f_Key⟩:G_Place)) v4 fun x12=>(inr (set_ v5 v4 (⟨(w64 (v4 + 1)),x11.f_Points,x11.f_Key⟩:G_Place)) (w64 (v4 - 1)) (at_ (set_ v5 v4 (⟨(w64 (v4 + 1)),x11.f_Points,x11.f_Key⟩:G_Place)) (w64 (v4 - 1)) fun x13=>(bif (x12.f_Points == x13.f_Points) then (inr (set_ v5 v4 (⟨(w64 (v4 + 1)),x11.f_Points,x11.f_Key⟩:G_Place)) (w64 (v4 - 1)) (at_ (set_ v5 v4 (⟨(w64 (v4 + 1)),x11.f_Points,x11.f_Key⟩:G_Place)) (w64 (v4 - 1)) fun x14=>(inr (set_ v5 v4 (⟨(w64 (v4 + 1)),x11.f_Points,x11.f_Key⟩:G_Place)) v4 (at_ (set_ v5 v4 (⟨(w64 (v4 + 1)),x11.f_Points,x11.f_Key⟩:G_Place)) v4 fun x15=>z13z_L3 g n v3 (w64 (v4 + 1)) (set_ (set_ v5 v4 (⟨(w64 (v4 + 1)),x11.f_Points,x11.f_Key⟩:G_Place)) v4 (⟨x14.f_Rank,x15.f_Points,x15.f_Key⟩:G_Place)) e0)))) else z13z_L3 g n v3 (w64 (v4 + 1)) (set_ v5 v4 (⟨(w64 (v4 + 1)),x11.f_Points,x11.f_Key⟩:G_Place)) e0))))) else z13z_L3 g n v3 (w64 (v4 + 1)) (set_ v5 v4 (⟨(w64 (v4 + 1)),x11.f_Points,x11.f_Key⟩:G_Place)) e0))) else e0 v5)
def z13z_ (g:C_z13z) (a1:List G_Place) {R:Type} (k0:List G_Place→Option R):Option R :=
 (g.z35z a1 (fun r2=>(z13z_L3 g g.N (r2.length:Int) 0 r2 (fun e16=>k0 e16))))
noncomputable def yfHy [Fuel]:C_z13z:=⟨NN,@z35z _⟩
noncomputable def z13z [Fuel]:ytJy:=@z13z_ yfHy
def ynxy (g:ytJy):Spec A:=fun args=>match args with | [.arr 142 a1]=>fun k=>g a1 (fun z0=>k (.arr 142 z0) [.undef]) | _=>fun _=>none
def yj4y:SSt:=mkSh 45 1 [(0,.own 142 0),(7,.int .i64),(8,.int .i64)] [(0,.row 142)]
def yffy (g:C_z13z) (n:Nat):LPT A:=fun ps=>match ps with | [.d (.int .i64 p1),.d (.int .i64 p2),.d (.sl 142 p3)]=>fun K=>z13z_L3 g n p1 p2 p3 (fun z0=>K (.exit 0) (mkSt 45 1 [(0,.own 142 0)] [(0,some (.row 142 z0))])) | _=>fun _=>none
noncomputable def yyNy:Code:=(Tryz.f87.body).getD .skip
noncomputable def yrgy (g:C_z13z):Env A:=mkE [(143,yjZy g.z35z)] [] [(3,⟨[0,7,8],[],[0],[],[],[],[]⟩)] [(3,⟨[0],[],[0],[],[],[],[]⟩)] [(3,yafy yj4y (yffy g g.N))] [] [] [] [(143,0)] []
theorem yHty [Fuel]:yagy (yrgy yfHy).C:=ct_of (P:=Tryz.prog) (T:=T) (.cons yyvy .nil) (by kernel_rfl)
noncomputable def yrny:Code:=sub [1,1,0,1,0,0] yyNy
theorem yCMy (g:C_z13z) (n:Nat):yaly (yrgy g) g.N yrny yj4y (yffy g) n:=by intro ps; unfold yffy; split; exact .inr fun R K=>(by kernel_rfl); exact .inl fun R K=>rfl
theorem yAuy [Fuel]:yaey (yrgy yfHy) NN yrny:=yahy yj4y (yffy yfHy) (by kernel_rfl) yHty (cuts0 (fun _=>rfl) (by kernel_rfl)) (fun ps R K=>by unfold yffy; split <;> (try unfold z13z_L3) <;> rfl) (yCMy yfHy)
theorem yGby (g:C_z13z):Same (ynxy (@z13z_ g)) (abody (yrgy g) Tryz.f87 yyNy 1 [0] [.arr 142] g.N):=by intro args; unfold ynxy; split; exact .inr fun R k=>(by kernel_rfl); exact .inl fun R k=>rfl
theorem yy9y [Fuel]:Ok 87 (ynxy (@z13z _)):=yaay std (.cons yyvy .nil) ⟨rfl,rfl,by kernel_rfl,rfl,rfl,rfl⟩ (yGby yfHy) (cutsL (fun _=>rfl) (.cons yAuy .nil) (by kernel_rfl)) Tryz.func87 (by kernel_rfl) (by kernel_rfl)
abbrev yhPy:Type 1:=List G_Entrant→List UInt8→{R:Type}→(List G_Place→Int→Option R)→Option R
structure C_club_Table where
 N:Nat
 kit_IsKey:ybsy
 z25z:yuZy
 z13z:ytJy
def ycdy (g:C_club_Table):Nat→List UInt8→List G_Entrant→Int→Int→List G_Place→{R:Type}→(List G_Place→Option R)→Option R
 | 0,_,_,_,_,_,_,_=>none
 | n + 1,v5,v6,v7,v8,v9,_,e0=>(bif (decide (v8 < v7)) then (get_ v6 v8 fun x11=>(bif (x11.f_Category == v5) then (bif (decide ((v9.length + [(⟨0,x11.f_Points,x11.f_Call⟩:G_Place)].length) * 32≤yaiy)) then ycdy g n v5 v6 v7 (w64 (v8 + 1)) (v9 ++ [(⟨0,x11.f_Points,x11.f_Call⟩:G_Place)]) e0 else none) else ycdy g n v5 v6 v7 (w64 (v8 + 1)) v9 e0)) else e0 v9)
def yi9y (g:C_club_Table) (a1:List G_Entrant) (a2:List UInt8) {R:Type} (k0:List G_Place→Int→Option R):Option R :=
 (g.z25z a1 (fun r3=>(bif (r3 != 0) then k0 [] r3 else (g.kit_IsKey a2 (fun r4=>(bif (!r4) then k0 [] 5 else (ycdy g g.N a2 a1 (a1.length:Int) 0 [] (fun e12=>(g.z13z e12 (fun r13=>k0 r13 0))))))))))
noncomputable def ya8y [Fuel]:C_club_Table:=⟨NN,@kit_IsKey _,@z25z _,@z13z _⟩
noncomputable def club_Table [Fuel]:yhPy:=@yi9y ya8y
def yd5y (g:yhPy):Spec A:=fun args=>match args with | [.d (.sl 98 a1),.d (.str a2)]=>fun k=>g a1 a2 (fun z0 z1=>k (.tup [.arr 142 z0,.d (.int .i64 z1)]) [.undef,.undef]) | _=>fun _=>none
def yely:SSt:=mkSh 39 5 [(1,.str),(7,.own 142 0),(18,.sl 98),(19,.int .i64),(20,.int .i64)] [(0,.row 142)]
def yb8y (g:C_club_Table) (n:Nat):LPT A:=fun ps=>match ps with | [.d (.str p1),.d (.sl 98 p2),.d (.int .i64 p3),.d (.int .i64 p4),.d (.sl 142 p5)]=>fun K=>ycdy g n p1 p2 p3 p4 p5 (fun z0=>K (.exit 0) (mkSt 39 5 [(7,.own 142 0)] [(0,some (.row 142 z0))])) | _=>fun _=>none
noncomputable def yysy:Code:=(Tryz.f39.body).getD .skip
noncomputable def yeWy (g:C_club_Table):Env A:=mkE [(80,ya9y g.kit_IsKey),(86,ynzy g.z25z),(87,ynxy g.z13z)] [(9,[1]),(34,[2]),(35,[3]),(38,[4])] [(8,⟨[1,7,18,19,20],[(7,142,0)],[],[],[],[],[]⟩)] [(8,⟨[7],[],[0],[],[],[],[]⟩)] [(8,yafy yely (yb8y g g.N))] [] [] [] [(87,0)] []
theorem ytwy [Fuel]:yagy (yeWy ya8y).C:=ct_of (P:=Tryz.prog) (T:=T) (.cons yaRy (.cons yyHy (.cons yy9y .nil))) (by kernel_rfl)
noncomputable def yhLy:Code:=sub [1,1,1,1,0,1,0,0] yysy
theorem yqcy (g:C_club_Table) (n:Nat):yaly (yeWy g) g.N yhLy yely (yb8y g) n:=by intro ps; unfold yb8y; split; exact .inr fun R K=>(by kernel_rfl); exact .inl fun R K=>rfl
theorem yozy [Fuel]:yaey (yeWy ya8y) NN yhLy:=yahy yely (yb8y ya8y) (by kernel_rfl) ytwy (cuts0 (fun _=>rfl) (by kernel_rfl)) (fun ps R K=>by unfold yb8y; split <;> (try unfold ycdy) <;> rfl) (yqcy ya8y)
theorem ytay (g:C_club_Table):Same (yd5y (@yi9y g)) (abody (yeWy g) Tryz.f39 yysy 5 [] [.arr 142,.asis] g.N):=by intro args; unfold yd5y; split; exact .inr fun R k=>(by kernel_rfl); exact .inl fun R k=>rfl
theorem ytmy [Fuel]:Ok 39 (yd5y (@club_Table _)):=yaay std (.cons yaRy (.cons yyHy (.cons yy9y .nil))) ⟨rfl,rfl,by kernel_rfl,rfl,rfl,rfl⟩ (ytay ya8y) (cutsL (fun _=>rfl) (.cons yozy .nil) (by kernel_rfl)) Tryz.func39 (by kernel_rfl) (by kernel_rfl)
abbrev yvly:Type 1:=G_Deed→{R:Type}→(Int→Option R)→Option R
structure C_z84z where
 N:Nat
 z61z:yq6y
def z84z_ (g:C_z84z) (a1:G_Deed) {R:Type} (k0:Int→Option R):Option R :=
 (g.z61z a1.f_Contact (fun r2=>(bif (r2 != 0) then k0 r2 else (bif (decide (a1.f_Contact.f_At > a1.f_At)) then k0 1 else k0 0))))
noncomputable def yDQy [Fuel]:C_z84z:=⟨NN,@z61z _⟩
noncomputable def z84z [Fuel]:yvly:=@z84z_ yDQy
def yniy (g:yvly):Spec A:=fun args=>match args with | [.agg [.d (.str a1),.d (.int .i64 a2),.d (.int .i64 a3),.d (.int .i64 a4),.d (.int .i64 a5),.d (.int .i64 a6),.d (.str a7),.d (.str a8),.d (.int .i64 a9),.d (.int .i64 a10),.d (.str a11),.d (.str a12),.d (.str a13),.d (.str a14),.d (.int .i64 a15)]]=>fun k=>g ⟨a1,a2,a3,a4,⟨a5,a6,a7,a8,a9,a10,a11,a12⟩,a13,a14,a15⟩ (fun z0=>k (.d (.int .i64 z0)) [.undef]) | _=>fun _=>none
noncomputable def yE0y:Code:=(Tryz.f213.body).getD .skip
noncomputable def yLEy (g:C_z84z):Env A:=mkE [(131,yjSy g.z61z)] [(1,[0])] [] [] [] [] [] [] [] []
theorem yJmy (g:C_z84z):Same (yniy (@z84z_ g)) (abody (yLEy g) Tryz.f213 yE0y 1 [] [.asis] g.N):=by intro args; unfold yniy; split; exact .inr fun R k=>(by kernel_rfl); exact .inl fun R k=>rfl
theorem yJty [Fuel]:Ok 213 (yniy (@z84z _)):=yaay std (.cons ysey .nil) ⟨rfl,rfl,by kernel_rfl,rfl,rfl,rfl⟩ (yJmy yDQy) (cuts0 (fun _=>rfl) (by kernel_rfl)) Tryz.func213 (by kernel_rfl) (by kernel_rfl)
abbrev yugy:Type 1:=G_Deed→{R:Type}→(Int→Option R)→Option R
structure C_z81z where
 N:Nat
 z45z:ydNy
 kit_IsKey:ybsy
 z84z:yvly
def z81z_ (g:C_z81z) (a1:G_Deed) {R:Type} (k0:Int→Option R):Option R :=
 (bif (a1.f_Kind == 1) then (g.z84z a1 (fun r2=>k0 r2)) else (bif (a1.f_Kind == 2) then (g.kit_IsKey a1.f_Band (fun r3=>(bif (!r3) then k0 5 else k0 0))) else (bif (a1.f_Kind == 5) then (g.kit_IsKey a1.f_Of (fun r4=>(bif (!r4) then k0 5 else (g.z45z a1.f_Other 1 1000000 (fun r5=>(bif r5 then k0 1 else k0 0)))))) else (g.z45z a1.f_Contact.f_Sent 1 99999 (fun r6=>(bif r6 then k0 1 else k0 0))))))
noncomputable def yDZy [Fuel]:C_z81z:=⟨NN,@z45z _,@kit_IsKey _,@z84z _⟩
noncomputable def z81z [Fuel]:yugy:=@z81z_ yDZy
def ymUy (g:yugy):Spec A:=fun args=>match args with | [.agg [.d (.str a1),.d (.int .i64 a2),.d (.int .i64 a3),.d (.int .i64 a4),.d (.int .i64 a5),.d (.int .i64 a6),.d (.str a7),.d (.str a8),.d (.int .i64 a9),.d (.int .i64 a10),.d (.str a11),.d (.str a12),.d (.str a13),.d (.str a14),.d (.int .i64 a15)]]=>fun k=>g ⟨a1,a2,a3,a4,⟨a5,a6,a7,a8,a9,a10,a11,a12⟩,a13,a14,a15⟩ (fun z0=>k (.d (.int .i64 z0)) [.undef]) | _=>fun _=>none
noncomputable def yFay:Code:=(Tryz.f153.body).getD .skip
noncomputable def yK4y (g:C_z81z):Env A:=mkE [(63,ycvy g.z45z),(80,ya9y g.kit_IsKey),(213,yniy g.z84z)] [(1,[0])] [] [] [] [] [] [] [] []
theorem yH8y (g:C_z81z):Same (ymUy (@z81z_ g)) (abody (yK4y g) Tryz.f153 yFay 1 [] [.asis] g.N):=by intro args; unfold ymUy; split; exact .inr fun R k=>(by kernel_rfl); exact .inl fun R k=>rfl
theorem yJVy [Fuel]:Ok 153 (ymUy (@z81z _)):=yaay std (.cons yc5y (.cons yaRy (.cons yJty .nil))) ⟨rfl,rfl,by kernel_rfl,rfl,rfl,rfl⟩ (yH8y yDZy) (cuts0 (fun _=>rfl) (by kernel_rfl)) Tryz.func153 (by kernel_rfl) (by kernel_rfl)
abbrev ykDy:Type 1:=G_Deed→{R:Type}→(Bool→Option R)→Option R
def ysAy (g:Nat) (a1:G_Deed) {R:Type} (k0:Bool→Option R):Option R :=
 (bif (a1.f_Kind == 3) then (bif (a1.f_Kind == 1) then (bif (a1.f_Kind == 2) then (bif (a1.f_Kind == 5) then k0 true else (bif (a1.f_Of == []) then k0 (a1.f_Other == 0) else k0 false)) else (bif (a1.f_Band == []) then (bif (a1.f_Kind == 5) then k0 true else (bif (a1.f_Of == []) then k0 (a1.f_Other == 0) else k0 false)) else k0 false)) else (bif (yh7y a1.f_Contact (⟨0,0,[],[],a1.f_Contact.f_Sent,0,[],[]⟩:G_Contact)) then (bif (a1.f_Kind == 2) then (bif (a1.f_Kind == 5) then k0 true else (bif (a1.f_Of == []) then k0 (a1.f_Other == 0) else k0 false)) else (bif (a1.f_Band == []) then (bif (a1.f_Kind == 5) then k0 true else (bif (a1.f_Of == []) then k0 (a1.f_Other == 0) else k0 false)) else k0 false)) else k0 false)) else (bif (a1.f_Kind == 4) then (bif (a1.f_Kind == 1) then (bif (a1.f_Kind == 2) then (bif (a1.f_Kind == 5) then k0 true else (bif (a1.f_Of == []) then k0 (a1.f_Other == 0) else k0 false)) else (bif (a1.f_Band == []) then (bif (a1.f_Kind == 5) then k0 true else (bif (a1.f_Of == []) then k0 (a1.f_Other == 0) else k0 false)) else k0 false)) else (bif (yh7y a1.f_Contact (⟨0,0,[],[],a1.f_Contact.f_Sent,0,[],[]⟩:G_Contact)) then (bif (a1.f_Kind == 2) then (bif (a1.f_Kind == 5) then k0 true else (bif (a1.f_Of == []) then k0 (a1.f_Other == 0) else k0 false)) else (bif (a1.f_Band == []) then (bif (a1.f_Kind == 5) then k0 true else (bif (a1.f_Of == []) then k0 (a1.f_Other == 0) else k0 false)) else k0 false)) else k0 false)) else (bif (a1.f_Kind == 1) then (bif (a1.f_Kind == 2) then (bif (a1.f_Kind == 5) then k0 true else (bif (a1.f_Of == []) then k0 (a1.f_Other == 0) else k0 false)) else (bif (a1.f_Band == []) then (bif (a1.f_Kind == 5) then k0 true else (bif (a1.f_Of == []) then k0 (a1.f_Other == 0) else k0 false)) else k0 false)) else (bif (yh7y a1.f_Contact (⟨0,0,[],[],0,0,[],[]⟩:G_Contact)) then (bif (a1.f_Kind == 2) then (bif (a1.f_Kind == 5) then k0 true else (bif (a1.f_Of == []) then k0 (a1.f_Other == 0) else k0 false)) else (bif (a1.f_Band == []) then (bif (a1.f_Kind == 5) then k0 true else (bif (a1.f_Of == []) then k0 (a1.f_Other == 0) else k0 false)) else k0 false)) else k0 false))))
noncomputable def net_idle [Fuel]:ykDy:=@ysAy NN
def ygoy (g:ykDy):Spec A:=fun args=>match args with | [.agg [.d (.str a1),.d (.int .i64 a2),.d (.int .i64 a3),.d (.int .i64 a4),.d (.int .i64 a5),.d (.int .i64 a6),.d (.str a7),.d (.str a8),.d (.int .i64 a9),.d (.int .i64 a10),.d (.str a11),.d (.str a12),.d (.str a13),.d (.str a14),.d (.int .i64 a15)]]=>fun k=>g ⟨a1,a2,a3,a4,⟨a5,a6,a7,a8,a9,a10,a11,a12⟩,a13,a14,a15⟩ (fun z0=>k (.d (.bool z0)) [.undef]) | _=>fun _=>none
noncomputable def yEGy:Code:=(Tryz.f154.body).getD .skip
noncomputable def yAjy (g:Nat):Env A:=mkE [] [(1,[0]),(5,[1])] [] [] [] [] [] [] [] []
theorem yxRy (g:Nat):Same (ygoy (@ysAy g)) (abody (yAjy g) Tryz.f154 yEGy 2 [] [.asis] g):=by intro args; unfold ygoy; split; exact .inr fun R k=>(by kernel_rfl); exact .inl fun R k=>rfl
theorem yxry [Fuel]:Ok 154 (ygoy (@net_idle _)):=yaay std .nil ⟨rfl,rfl,by kernel_rfl,rfl,rfl,rfl⟩ (yxRy NN) (cuts0 (fun _=>rfl) (by kernel_rfl)) Tryz.func154 (by kernel_rfl) (by kernel_rfl)
abbrev yhXy:Type 1:=G_Deed→{R:Type}→(Int→Option R)→Option R
structure C_net_formed where
 N:Nat
 z49z:yh4y
 z45z:ydNy
 kit_IsKey:ybsy
 z81z:yugy
 net_idle:ykDy
def yn8y (g:C_net_formed) (a1:G_Deed) {R:Type} (k0:Int→Option R):Option R :=
 (g.kit_IsKey a1.f_Site (fun r2=>(bif (!r2) then k0 5 else (g.z45z a1.f_No 1 1000000 (fun r3=>(bif r3 then k0 1 else (g.z49z a1.f_At (fun r4=>(bif (!r4) then k0 1 else (g.z45z a1.f_Kind 1 5 (fun r5=>(bif r5 then k0 4 else (g.z81z a1 (fun r6=>(bif (r6 != 0) then k0 r6 else (g.net_idle a1 (fun r7=>(bif (!r7) then k0 3 else k0 0))))))))))))))))))
noncomputable def ylSy [Fuel]:C_net_formed:=⟨NN,@z49z _,@z45z _,@kit_IsKey _,@z81z _,@net_idle _⟩
noncomputable def net_formed [Fuel]:yhXy:=@yn8y ylSy
def yd4y (g:yhXy):Spec A:=fun args=>match args with | [.agg [.d (.str a1),.d (.int .i64 a2),.d (.int .i64 a3),.d (.int .i64 a4),.d (.int .i64 a5),.d (.int .i64 a6),.d (.str a7),.d (.str a8),.d (.int .i64 a9),.d (.int .i64 a10),.d (.str a11),.d (.str a12),.d (.str a13),.d (.str a14),.d (.int .i64 a15)]]=>fun k=>g ⟨a1,a2,a3,a4,⟨a5,a6,a7,a8,a9,a10,a11,a12⟩,a13,a14,a15⟩ (fun z0=>k (.d (.int .i64 z0)) [.undef]) | _=>fun _=>none
noncomputable def yH5y:Code:=(Tryz.f97.body).getD .skip
noncomputable def ytRy (g:C_net_formed):Env A:=mkE [(62,yevy g.z49z),(63,ycvy g.z45z),(80,ya9y g.kit_IsKey),(153,ymUy g.z81z),(154,ygoy g.net_idle)] [(1,[0])] [] [] [] [] [] [] [] []
theorem ytey (g:C_net_formed):Same (yd4y (@yn8y g)) (abody (ytRy g) Tryz.f97 yH5y 1 [] [.asis] g.N):=by intro args; unfold yd4y; split; exact .inr fun R k=>(by kernel_rfl); exact .inl fun R k=>rfl
theorem ylly [Fuel]:Ok 97 (yd4y (@net_formed _)):=yaay std (.cons yhFy (.cons yc5y (.cons yaRy (.cons yJVy (.cons yxry .nil))))) ⟨rfl,rfl,by kernel_rfl,rfl,rfl,rfl⟩ (ytey ylSy) (cuts0 (fun _=>rfl) (by kernel_rfl)) Tryz.func97 (by kernel_rfl) (by kernel_rfl)
abbrev yuBy:Type 1:=G_Deed→G_Deed→{R:Type}→(Int→Option R)→Option R
structure C_z86z where
 N:Nat
 z20z:ygXy
 z14z:ygLy
 strings_Compare:yaYy
def z86z_ (g:C_z86z) (a1 a2:G_Deed) {R:Type} (k0:Int→Option R):Option R :=
 (g.z14z a1.f_At a2.f_At (fun r3=>(g.strings_Compare a1.f_Site a2.f_Site (fun r4=>(g.z14z a1.f_No a2.f_No (fun r5=>(g.z20z [r3,r4,r5] (fun r6=>k0 r6))))))))
noncomputable def yCYy [Fuel]:C_z86z:=⟨NN,@z20z _,@z14z _,@strings_Compare _⟩
noncomputable def z86z [Fuel]:yuBy:=@z86z_ yCYy
def ynSy (g:yuBy):Spec A:=fun args=>match args with | [.agg [.d (.str a1),.d (.int .i64 a2),.d (.int .i64 a3),.d (.int .i64 a4),.d (.int .i64 a5),.d (.int .i64 a6),.d (.str a7),.d (.str a8),.d (.int .i64 a9),.d (.int .i64 a10),.d (.str a11),.d (.str a12),.d (.str a13),.d (.str a14),.d (.int .i64 a15)],.agg [.d (.str a16),.d (.int .i64 a17),.d (.int .i64 a18),.d (.int .i64 a19),.d (.int .i64 a20),.d (.int .i64 a21),.d (.str a22),.d (.str a23),.d (.int .i64 a24),.d (.int .i64 a25),.d (.str a26),.d (.str a27),.d (.str a28),.d (.str a29),.d (.int .i64 a30)]]=>fun k=>g ⟨a1,a2,a3,a4,⟨a5,a6,a7,a8,a9,a10,a11,a12⟩,a13,a14,a15⟩ ⟨a16,a17,a18,a19,⟨a20,a21,a22,a23,a24,a25,a26,a27⟩,a28,a29,a30⟩ (fun z0=>k (.d (.int .i64 z0)) [.undef,.undef]) | _=>fun _=>none
noncomputable def yIOy:Code:=(Tryz.f46.body).getD .skip
noncomputable def yKxy (g:C_z86z):Env A:=mkE [(68,ybCy g.z20z),(69,ybDy g.z14z),(70,yaBy g.strings_Compare)] [(2,[0]),(3,[1]),(20,[2])] [] [] [] [] [] [] [] []
theorem yH6y (g:C_z86z):Same (ynSy (@z86z_ g)) (abody (yKxy g) Tryz.f46 yIOy 3 [] [.asis] g.N):=by intro args; unfold ynSy; split; exact .inr fun R k=>(by kernel_rfl); exact .inl fun R k=>rfl
theorem yyXy [Fuel]:Ok 46 (ynSy (@z86z _)):=yaay std (.cons ygdy (.cons ygby (.cons ya7y .nil))) ⟨rfl,rfl,by kernel_rfl,rfl,rfl,rfl⟩ (yH6y yCYy) (cuts0 (fun _=>rfl) (by kernel_rfl)) Tryz.func46 (by kernel_rfl) (by kernel_rfl)
abbrev ytHy:Type 1:=List G_Deed→{R:Type}→(Int→Option R)→Option R
structure C_z22z where
 N:Nat
 z86z:yuBy
 net_formed:yhXy
def z22z_L4 (g:C_z22z):Nat→List G_Deed→List G_Deed→Int→Int→{R:Type}→(List G_Deed→Int→Option R)→(List G_Deed→Option R)→Option R
 | 0,_,_,_,_,_,_,_=>none
 | n + 1,v2,v3,v4,v5,_,e0,e1=>(bif (decide (v5 < v4)) then (get_ v3 v5 fun x10=>(g.net_formed x10 (fun r11=>(bif (r11 != 0) then e0 v2 r11 else (bif (decide (v5 > 0)) then (get_ v2 (w64 (v5 - 1)) fun x12=>(g.z86z x12 x10 (fun r13=>(bif (decide (r13 ≥ 0)) then e0 v2 7 else z22z_L4 g n v2 v3 v4 (w64 (v5 + 1)) e0 e1)))) else z22z_L4 g n v2 v3 v4 (w64 (v5 + 1)) e0 e1))))) else e1 v2)
def z22z_L14 (g:C_z22z):Nat→List G_Deed→Int→Int→List (G_net_own×Bool)→{R:Type}→(Int→Option R)→Option R→Option R
 | 0,_,_,_,_,_,_,_=>none
 | n + 1,v17,v18,v19,v20,_,e0,e1=>(bif (decide (v19 < v18)) then (get_ v17 v19 fun x22=>(bif ((ybRy (⟨x22.f_Site,x22.f_No⟩:G_net_own) v20).getD false) then e0 6 else z22z_L14 g n v17 v18 (w64 (v19 + 1)) (ya0y (⟨x22.f_Site,x22.f_No⟩:G_net_own) true v20) e0 e1)) else e1)
def z22z_ (g:C_z22z) (a1:List G_Deed) {R:Type} (k0:Int→Option R):Option R :=
 (bif (decide ((a1.length:Int) > 2000)) then k0 2 else (z22z_L4 g g.N a1 a1 (a1.length:Int) 0 (fun e14 e15=>k0 e15) (fun e16=>(z22z_L14 g g.N e16 (e16.length:Int) 0 [] (fun e23=>k0 e23) (k0 0)))))
noncomputable def ye3y [Fuel]:C_z22z:=⟨NN,@z86z _,@net_formed _⟩
noncomputable def z22z [Fuel]:ytHy:=@z22z_ ye3y
def ynry (g:ytHy):Spec A:=fun args=>match args with | [.d (.sl 51 a1)]=>fun k=>g a1 (fun z0=>k (.d (.int .i64 z0)) [.undef]) | _=>fun _=>none
def ykby:SSt:=mkSh 56 4 [(0,.sl 51),(13,.sl 51),(14,.int .i64),(15,.int .i64)] []
def ye4y (g:C_z22z) (n:Nat):LPT A:=fun ps=>match ps with | [.d (.sl 51 p1),.d (.sl 51 p2),.d (.int .i64 p3),.d (.int .i64 p4)]=>fun K=>z22z_L4 g n p1 p2 p3 p4 (fun z0 z1=>K .ret (mkSt 56 4 [(0,.d (.sl 51 z0)),(2,.d (.int .i64 z1))] [])) (fun z0=>K (.exit 0) (mkSt 56 4 [(0,.d (.sl 51 z0))] [])) | _=>fun _=>none
def yiYy:SSt:=mkSh 56 4 [(6,.mp 1),(39,.sl 51),(40,.int .i64),(41,.int .i64)] [(1,.mp 107 4)]
def ydPy (g:C_z22z) (n:Nat):LPT A:=fun ps=>match ps with | [.d (.sl 51 p1),.d (.int .i64 p2),.d (.int .i64 p3),.mp 107 4 p4]=>fun K=>z22z_L14 g n p1 p2 p3 p4 (fun z0=>K .ret (mkSt 56 4 [(2,.d (.int .i64 z0))] [])) (K (.exit 2) (mkSt 56 4 [] [])) | _=>fun _=>none
noncomputable def yrDy:Code:=(Tryz.f43.body).getD .skip
noncomputable def yjxy (g:C_z22z):Env A:=mkE [(46,ynSy g.z86z),(97,yd4y g.net_formed)] [(4,[0]),(8,[2]),(9,[3]),(38,[1])] [(4,⟨[0,13,14,15],[],[],[],[],[],[]⟩),(14,⟨[6,39,40,41],[],[1],[],[],[],[]⟩)] [(4,⟨[0,2],[],[],[],[],[],[]⟩),(14,⟨[2],[],[],[],[],[],[]⟩)] [(4,yafy ykby (ye4y g g.N)),(14,yafy yiYy (ydPy g g.N))] [] [] [] [] []
theorem yyyy [Fuel]:yagy (yjxy ye3y).C:=ct_of (P:=Tryz.prog) (T:=T) (.cons yyXy (.cons ylly .nil)) (by kernel_rfl)
noncomputable def yqIy:Code:=sub [1,1,0,1,0,0] yrDy
theorem yCQy (g:C_z22z) (n:Nat):yaly (yjxy g) g.N yqIy ykby (ye4y g) n:=by intro ps; unfold ye4y; split; exact .inr fun R K=>(by kernel_rfl); exact .inl fun R K=>rfl
theorem yBgy [Fuel]:yaey (yjxy ye3y) NN yqIy:=yahy ykby (ye4y ye3y) (by kernel_rfl) yyyy (cuts0 (fun _=>rfl) (by kernel_rfl)) (fun ps R K=>by unfold ye4y; split <;> (try unfold z22z_L4) <;> rfl) (yCQy ye3y)
noncomputable def ynZy:Code:=sub [1,1,1,1,0,1,0,0] yrDy
theorem yAcy (g:C_z22z) (n:Nat):yaly (yjxy g) g.N ynZy yiYy (ydPy g) n:=by intro ps; unfold ydPy; split; exact .inr fun R K=>(by kernel_rfl); exact .inl fun R K=>rfl
theorem yyay [Fuel]:yaey (yjxy ye3y) NN ynZy:=yahy yiYy (ydPy ye3y) (by kernel_rfl) yyyy (cuts0 (fun _=>rfl) (by kernel_rfl)) (fun ps R K=>by unfold ydPy; split <;> (try unfold z22z_L14) <;> rfl) (yAcy ye3y)
theorem yIZy (g:C_z22z):Same (ynry (@z22z_ g)) (abody (yjxy g) Tryz.f43 yrDy 4 [] [.asis] g.N):=by intro args; unfold ynry; split; exact .inr fun R k=>(by kernel_rfl); exact .inl fun R k=>rfl
theorem yJIy [Fuel]:Ok 43 (ynry (@z22z _)):=yaay std (.cons yyXy (.cons ylly .nil)) ⟨rfl,rfl,by kernel_rfl,rfl,rfl,rfl⟩ (yIZy ye3y) (cutsL (fun _=>rfl) (.cons yBgy (.cons yyay .nil)) (by kernel_rfl)) Tryz.func43 (by kernel_rfl) (by kernel_rfl)
abbrev yvry:Type 1:=List G_Deed→Int→{R:Type}→(Int→Option R)→Option R
structure C_z78z where
 N:Nat
 z22z:ytHy
 z49z:yh4y
def z78z_ (g:C_z78z) (a1:List G_Deed) (a2:Int) {R:Type} (k0:Int→Option R):Option R :=
 (g.z22z a1 (fun r3=>(bif (r3 != 0) then k0 r3 else (g.z49z a2 (fun r4=>(bif (!r4) then k0 1 else k0 0))))))
noncomputable def yCsy [Fuel]:C_z78z:=⟨NN,@z22z _,@z49z _⟩
noncomputable def z78z [Fuel]:yvry:=@z78z_ yCsy
def ymQy (g:yvry):Spec A:=fun args=>match args with | [.d (.sl 51 a1),.d (.int .i64 a2)]=>fun k=>g a1 a2 (fun z0=>k (.d (.int .i64 z0)) [.undef,.undef]) | _=>fun _=>none
noncomputable def yJjy:Code:=(Tryz.f49.body).getD .skip
noncomputable def yKEy (g:C_z78z):Env A:=mkE [(43,ynry g.z22z),(62,yevy g.z49z)] [] [] [] [] [] [] [] [] []
theorem yIey (g:C_z78z):Same (ymQy (@z78z_ g)) (abody (yKEy g) Tryz.f49 yJjy 0 [] [.asis] g.N):=by intro args; unfold ymQy; split; exact .inr fun R k=>(by kernel_rfl); exact .inl fun R k=>rfl
theorem yHZy [Fuel]:Ok 49 (ymQy (@z78z _)):=yaay std (.cons yJIy (.cons yhFy .nil)) ⟨rfl,rfl,by kernel_rfl,rfl,rfl,rfl⟩ (yIey yCsy) (cuts0 (fun _=>rfl) (by kernel_rfl)) Tryz.func49 (by kernel_rfl) (by kernel_rfl)
abbrev ywUy:Type 1:=List G_Deed→{R:Type}→(List G_Deed→Option R)→Option R
def z74z_ (g:Nat) (a1:List G_Deed) {R:Type} (k0:List G_Deed→Option R):Option R :=
 k0 a1
noncomputable def z74z [Fuel]:ywUy:=@z74z_ NN
def ynRy (g:ywUy):Spec A:=fun args=>match args with | [.d (.sl 51 a1)]=>fun k=>g a1 (fun z0=>k (.fn 166 [.box [.d (.sl 51 z0)]]) [.undef]) | _=>fun _=>none
noncomputable def yFdy:Code:=(Tryz.f104.body).getD .skip
noncomputable def yKfy (g:Nat):Env A:=mkE [] [(1,[0])] [] [] [] [] [] [] [] []
theorem yHby (g:Nat):Same (ynRy (@z74z_ g)) (abody (yKfy g) Tryz.f104 yFdy 1 [] [.asis] g):=by intro args; unfold ynRy; split; exact .inr fun R k=>(by kernel_rfl); exact .inl fun R k=>rfl
theorem yyqy [Fuel]:Ok 104 (ynRy (@z74z _)):=yaay std .nil ⟨rfl,rfl,by kernel_rfl,rfl,rfl,rfl⟩ (yHby NN) (cuts0 (fun _=>rfl) (by kernel_rfl)) Tryz.func104 (by kernel_rfl) (by kernel_rfl)
abbrev yvLy:Type 1:=List Int→{R:Type}→(List Int→Option R)→Option R
def z43z_L1 (g:Nat):Nat→Int→Int→List Int→{R:Type}→(List Int→Option R)→Option R
 | 0,_,_,_,_,_=>none
 | n + 1,v2,v3,v4,_,e0=>(bif (decide (v2 < v3)) then (inr v4 v3 (at_ v4 v3 fun x9=>(inr v4 v2 (at_ v4 v2 fun x10=>(inr v4 v2 (at_ v4 v2 fun x11=>(inr (set_ v4 v2 x9) v3 (at_ (set_ v4 v2 x9) v3 fun x12=>z43z_L1 g n (w64 (v2 + 1)) (w64 (v3 - 1)) (set_ (set_ v4 v2 x9) v3 x10) e0)))))))) else e0 v4)
def z43z_ (g:Nat) (a1:List Int) {R:Type} (k0:List Int→Option R):Option R :=
 (z43z_L1 g g 0 (w64 ((a1.length:Int) - 1)) a1 (fun e13=>k0 e13))
noncomputable def z43z [Fuel]:yvLy:=@z43z_ NN
def ynay (g:yvLy):Spec A:=fun args=>match args with | [.arr 3 a1]=>fun k=>g a1 (fun z0=>k (.tup []) [.arr 3 z0]) | _=>fun _=>none
def ykYy:SSt:=mkSh 28 1 [(0,.own 3 0),(2,.int .i64),(3,.int .i64)] [(0,.row 3)]
def yfKy (g:Nat) (n:Nat):LPT A:=fun ps=>match ps with | [.d (.int .i64 p1),.d (.int .i64 p2),.d (.sl 3 p3)]=>fun K=>z43z_L1 g n p1 p2 p3 (fun z0=>K (.exit 0) (mkSt 28 1 [(0,.own 3 0)] [(0,some (.row 3 z0))])) | _=>fun _=>none
noncomputable def yxdy:Code:=(Tryz.f105.body).getD .skip
noncomputable def yq7y (g:Nat):Env A:=mkE [] [] [(1,⟨[0,2,3],[],[0],[],[],[],[]⟩)] [(1,⟨[0],[],[0],[],[],[],[]⟩)] [(1,yafy ykYy (yfKy g g))] [] [] [] [] [0]
theorem yGVy [Fuel]:yagy (yq7y NN).C:=ct_of (P:=Tryz.prog) (T:=T) .nil (by kernel_rfl)
noncomputable def ypKy:Code:=sub [1,0,0] yxdy
theorem yBVy (g:Nat) (n:Nat):yaly (yq7y g) g ypKy ykYy (yfKy g) n:=by intro ps; unfold yfKy; split; exact .inr fun R K=>(by kernel_rfl); exact .inl fun R K=>rfl
theorem yBCy [Fuel]:yaey (yq7y NN) NN ypKy:=yahy ykYy (yfKy NN) (by kernel_rfl) yGVy (cuts0 (fun _=>rfl) (by kernel_rfl)) (fun ps R K=>by unfold yfKy; split <;> (try unfold z43z_L1) <;> rfl) (yBVy NN)
theorem yJey (g:Nat):Same (ynay (@z43z_ g)) (abody (yq7y g) Tryz.f105 yxdy 1 [0] [] g):=by intro args; unfold ynay; split; exact .inr fun R k=>(by kernel_rfl); exact .inl fun R k=>rfl
theorem yyKy [Fuel]:Ok 105 (ynay (@z43z _)):=yaay std .nil ⟨rfl,rfl,by kernel_rfl,rfl,rfl,rfl⟩ (yJey NN) (cutsL (fun _=>rfl) (.cons yBCy .nil) (by kernel_rfl)) Tryz.func105 (by kernel_rfl) (by kernel_rfl)
end Go.Am
