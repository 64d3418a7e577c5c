/- The functions of the program as Lean functions, each shown to be what the code computes, part 13. No condition: lemmas for the claim. -/
import Derived.Test.YtfngnnmdgfkenaaGreatDoorF0
import Derived.Test.YtfngnnmdgfkenaaGreatDoorFSh
import Derived.Test.YtfngnnmdgfkenaaGreatDoorF1
import Derived.Test.YtfngnnmdgfkenaaGreatDoorF5
import Derived.Test.YtfngnnmdgfkenaaGreatDoorF6
import Derived.Test.YtfngnnmdgfkenaaGreatDoorF12
set_option linter.unusedVariables false
set_option maxRecDepth 100000
namespace Go.Am
open Go Go.Proofs
abbrev yx2y:Type 1:=List G_Entrant→{R:Type}→(Int→Option R)→Option R
structure C_z52z where
 N:Nat
 kit_IsKey:ybhy
 z48z:ycmy
 call_Is:ye1y
 z40z:yfgy
 strings_Compare:yaQy
 z111z:yviy
def z52z_L4 (g:C_z52z):Nat→List G_Entrant→List G_Entrant→Int→Int→{R:Type}→(Int→Option R)→Option R→Option R
 | 0,_,_,_,_,_,_,_=>none
 | n + 1,v2,v3,v4,v5,_,e0,e1=>(bif (decide (v5 < v4)) then (get_ v3 v5 fun x21=>(g.call_Is x21.f_Call (fun r22=>(bif (!r22) then e0 3 else (g.kit_IsKey x21.f_Category (fun r23=>(bif (!r23) then e0 5 else (g.z48z x21.f_Points 0 1000000000000 (fun r24=>(bif r24 then e0 1 else (bif (!(x21.f_Locator == [])) then (g.z111z x21.f_Locator (fun r25=>(bif (!r25) then e0 3 else (bif (decide (v5 > 0)) then (get_ v2 (w64 (v5 - 1)) fun x26=>(get_ v2 (w64 (v5 - 1)) fun x27=>(g.strings_Compare x26.f_Category x21.f_Category (fun r28=>(g.strings_Compare x27.f_Call x21.f_Call (fun r29=>(g.z40z [r28,r29] (fun r30=>(bif (decide (r30 ≥ 0)) then e0 7 else z52z_L4 g n v2 v3 v4 (w64 (v5 + 1)) e0 e1))))))))) else z52z_L4 g n v2 v3 v4 (w64 (v5 + 1)) e0 e1)))) else (bif (decide (v5 > 0)) then (get_ v2 (w64 (v5 - 1)) fun x31=>(get_ v2 (w64 (v5 - 1)) fun x32=>(g.strings_Compare x31.f_Category x21.f_Category (fun r33=>(g.strings_Compare x32.f_Call x21.f_Call (fun r34=>(g.z40z [r33,r34] (fun r35=>(bif (decide (r35 ≥ 0)) then e0 7 else z52z_L4 g n v2 v3 v4 (w64 (v5 + 1)) e0 e1))))))))) else z52z_L4 g n v2 v3 v4 (w64 (v5 + 1)) e0 e1)))))))))))) else e1)
def z52z_ (g:C_z52z) (a1:List G_Entrant) {R:Type} (k0:Int→Option R):Option R :=
 (bif (decide ((a1.length:Int) > 500)) then k0 2 else (z52z_L4 g g.N a1 a1 (a1.length:Int) 0 (fun e36=>k0 e36) (k0 0)))
noncomputable def yk0y [Fuel]:C_z52z:=⟨NN,@kit_IsKey _,@z48z _,@call_Is _,@z40z _,@strings_Compare _,@z111z _⟩
noncomputable def z52z [Fuel]:yx2y:=@z52z_ yk0y
def ypSy (g:yx2y):Spec A:=fun args=>match args with | [.d (.sl 99 a1)]=>fun k=>g a1 (fun z0=>k (.d (.int .i64 z0)) [.undef]) | _=>fun _=>none
def ymky:SSt:=mkSh 66 2 [(0,.sl 99),(8,.sl 99),(9,.int .i64),(10,.int .i64)] []
def yfzy (g:C_z52z) (n:Nat):LPT A:=fun ps=>match ps with | [.d (.sl 99 p1),.d (.sl 99 p2),.d (.int .i64 p3),.d (.int .i64 p4)]=>fun K=>z52z_L4 g n p1 p2 p3 p4 (fun z0=>K .ret (mkSt 66 2 [(2,.d (.int .i64 z0))] [])) (K (.exit 0) (mkSt 66 2 [] [])) | _=>fun _=>none
noncomputable def yC2y:Code:=(Tryz.f90.body).getD .skip
noncomputable def ys3y (g:C_z52z):Env A:=mkE [(62,yaUy g.kit_IsKey),(64,ybKy g.z48z),(71,ycVy g.call_Is),(75,ybGy g.z40z),(76,yazy g.strings_Compare),(132,ymEy g.z111z)] [(4,[0]),(61,[1])] [(4,⟨[0,8,9,10],[],[],[],[],[],[]⟩)] [(4,⟨[2],[],[],[],[],[],[]⟩)] [(4,yady ymky (yfzy g g.N))] [] [] [] [] []
theorem yNBy [Fuel]:yahy (ys3y yk0y).C:=ct_of (P:=Tryz.prog) (T:=T) (.cons yaDy (.cons ybHy (.cons ycny (.cons yeVy (.cons yaYy (.cons yzny .nil)))))) (by kernel_rfl)
noncomputable def ysLy:Code:=sub [1,1,0,1,0,0] yC2y
theorem yGEy (g:C_z52z) (n:Nat):yaiy (ys3y g) g.N ysLy ymky (yfzy g) n:=by intro ps; unfold yfzy; split; exact .inr fun R K=>(by kernel_rfl); exact .inl fun R K=>rfl
theorem yE2y [Fuel]:yaby (ys3y yk0y) NN ysLy:=yacy ymky (yfzy yk0y) (by kernel_rfl) yNBy (cuts0 (fun _=>rfl) (by kernel_rfl)) (fun ps R K=>by unfold yfzy; split <;> (try unfold z52z_L4) <;> rfl) (yGEy yk0y)
theorem yNJy (g:C_z52z):Same (ypSy (@z52z_ g)) (abody (ys3y g) Tryz.f90 yC2y 2 [] [.asis] g.N):=by intro args; unfold ypSy; split; exact .inr fun R k=>(by kernel_rfl); exact .inl fun R k=>rfl
theorem yDRy [Fuel]:Ok 90 (ypSy (@z52z _)):=yaay std (.cons yaDy (.cons ybHy (.cons ycny (.cons yeVy (.cons yaYy (.cons yzny .nil)))))) ⟨rfl,rfl,by kernel_rfl,rfl,rfl,rfl⟩ (yNJy yk0y) (cutsL (fun _=>rfl) (.cons yE2y .nil) (by kernel_rfl)) Tryz.func90 (by kernel_rfl) (by kernel_rfl)
abbrev yGty:Type 1:=G_Place→G_Place→{R:Type}→(Int→Option R)→Option R
structure C_z70z where
 N:Nat
 z29z:yfyy
 z40z:yfgy
 strings_Compare:yaQy
def z70z_ (g:C_z70z) (a1 a2:G_Place) {R:Type} (k0:Int→Option R):Option R :=
 (g.z29z a2.f_Points a1.f_Points (fun r3=>(g.strings_Compare a1.f_Key a2.f_Key (fun r4=>(g.z40z [r3,r4] (fun r5=>k0 r5))))))
noncomputable def yBby [Fuel]:C_z70z:=⟨NN,@z29z _,@z40z _,@strings_Compare _⟩
noncomputable def z70z [Fuel]:yGty:=@z70z_ yBby
def ygKy (g:yGty):Spec A:=fun args=>match args with | [.agg [.d (.int .i64 a1),.d (.int .i64 a2),.d (.str a3)],.agg [.d (.int .i64 a4),.d (.int .i64 a5),.d (.str a6)]]=>fun k=>g ⟨a1,a2,a3⟩ ⟨a4,a5,a6⟩ (fun z0=>k (.d (.int .i64 z0)) [.undef,.undef]) | _=>fun _=>none
noncomputable def yAjy:Code:=(Tryz.f134.body).getD .skip
noncomputable def yRRy (g:C_z70z):Env A:=mkE [(52,ybFy g.z29z),(75,ybGy g.z40z),(76,yazy g.strings_Compare)] [(2,[0]),(3,[1]),(15,[2])] [] [] [] [] [] [] [] []
theorem yLIy (g:C_z70z):Same (ygKy (@z70z_ g)) (abody (yRRy g) Tryz.f134 yAjy 3 [] [.asis] g.N):=by intro args; unfold ygKy; split; exact .inr fun R k=>(by kernel_rfl); exact .inl fun R k=>rfl
theorem ok_z70z [Fuel]:Ok 134 (ygKy (@z70z _)):=yaay std (.cons ye2y (.cons yeVy (.cons yaYy .nil))) ⟨rfl,rfl,by kernel_rfl,rfl,rfl,rfl⟩ (yLIy yBby) (cuts0 (fun _=>rfl) (by kernel_rfl)) Tryz.func134 (by kernel_rfl) (by kernel_rfl)
noncomputable def yPfy (g:C_z70z):Env A:=mkED [(52,ybFy g.z29z),(75,ybGy g.z40z),(76,yazy g.strings_Compare)] [(2,[0]),(3,[1]),(15,[2])] [] [] [] [] [] [] [] []
theorem yJoy (g:C_z70z):Same (ygKy (@z70z_ g)) (abody (yPfy g) Tryz.f134 yAjy 3 [] [.asis] g.N):=by intro args; unfold ygKy; split; exact .inr fun R k=>(by kernel_rfl); exact .inl fun R k=>rfl
theorem yzQy [Fuel]:OkD 134 (ygKy (@z70z _)):=yaay stdD (.cons yqXy (.cons yqRy (.cons ydry .nil))) ⟨rfl,rfl,by kernel_rfl,rfl,rfl,rfl⟩ (yJoy yBby) (cuts0 (fun _=>rfl) (by kernel_rfl)) Tryz.func134 (by kernel_rfl) (by kernel_rfl)
abbrev yzUy:Type 1:=List G_Place→{R:Type}→(List G_Place→Option R)→Option R
noncomputable def z60z [Fuel]:yzUy:=@ybwy G_Place (@z70z _)
def ykcy (g:yzUy):Spec A:=fun args=>match args with | [.arr 141 a1,.fn 134 []]=>fun k=>g a1 (fun z=>k (.tup []) [.arr 141 z,.fn 134 []]) | _=>fun _=>none
theorem yEiy [Fuel] (xs:List (A 141)) (R:Type) (k:IV A→List (IV A)→Option R):ykcy (@z60z _) [.arr 141 xs,.fn 134 []] k = ybwy (α:=A 141) (@z70z _) xs (fun z=>k (.tup []) [.arr 141 z,.fn 134 []]):=by kernel_rfl
theorem yC5y [Fuel] (args:List (IV A)) (R:Type) (k:IV A→List (IV A)→Option R) (h:∀ xs:List (A 141),args ≠ [.arr 141 xs,.fn 134 []]):ykcy (@z60z _) args k = none:=by unfold ykcy; split; exact absurd rfl (h _); rfl
theorem yM3y [Fuel] (x y:A 141) (R:Type) (k:Int→Option R):ykFy T (ygKy (@z70z _)) 141 x y k = @z70z _ x y R k:=by kernel_rfl
theorem yNpy (x:G_Place):(ymLy x).all scal = true:=rfl
theorem yEdy [Fuel]:Ok 133 (ykcy (@z60z _)):=⟨yhdy (tyOk Tryz.prog) (e:=141) Tryz.sortf133 Tryz.isAgg141 Tryz.sizeOf141 (fun x d hd=>List.all_eq_true.1 (yNpy x) d hd) yM3y yzQy.fs yzQy.en yEiy yC5y,ymay (e:=141) yEiy yC5y,yaOy (fn:=Tryz.f133) Tryz.func133 (by kernel_rfl) (by kernel_rfl)⟩
abbrev yAGy:Type 1:=List G_Place→{R:Type}→(List G_Place→Option R)→Option R
structure C_z33z where
 N:Nat
 z60z:yzUy
def z33z_L3 (g:C_z33z):Nat→Int→Int→List G_Place→{R:Type}→(List G_Place→Option R)→Option R
 | 0,_,_,_,_,_=>none
 | n + 1,v3,v4,v5,_,e0=>(bif (decide (v4 < v3)) then (inr v5 v4 (at_ v5 v4 fun x11=>(bif (decide (v4 > 0)) then (inr (set_ v5 v4 (⟨(w64 (v4 + 1)),x11.f_Points,x11.f_Key⟩:G_Place)) v4 (at_ (set_ v5 v4 (⟨(w64 (v4 + 1)),x11.f_Points,x11.f_Key⟩:G_Place)) v4 fun x12=>(inr (set_ v5 v4 (⟨(w64 (v4 + 1)),x11.f_Points,x11.f_Key⟩:G_Place)) (w64 (v4 - 1)) (at_ (set_ v5 v4 (⟨(w64 (v4 + 1)),x11.f_Points,x11.f_Key⟩:G_Place)) (w64 (v4 - 1)) fun x13=>(bif (x12.f_Points == x13.f_Points) then (inr (set_ v5 v4 (⟨(w64 (v4 + 1)),x11.f_Points,x11.f_Key⟩:G_Place)) (w64 (v4 - 1)) (at_ (set_ v5 v4 (⟨(w64 (v4 + 1)),x11.f_Points,x11.f_Key⟩:G_Place)) (w64 (v4 - 1)) fun x14=>(inr (set_ v5 v4 (⟨(w64 (v4 + 1)),x11.f_Points,x11.f_Key⟩:G_Place)) v4 (at_ (set_ v5 v4 (⟨(w64 (v4 + 1)),x11.f_Points,x11.f_Key⟩:G_Place)) v4 fun x15=>z33z_L3 g n v3 (w64 (v4 + 1)) (set_ (set_ v5 v4 (⟨(w64 (v4 + 1)),x11.f_Points,x11.f_Key⟩:G_Place)) v4 (⟨x14.f_Rank,x15.f_Points,x15.f_Key⟩:G_Place)) e0)))) else z33z_L3 g n v3 (w64 (v4 + 1)) (set_ v5 v4 (⟨(w64 (v4 + 1)),x11.f_Points,x11.f_Key⟩:G_Place)) e0))))) else z33z_L3 g n v3 (w64 (v4 + 1)) (set_ v5 v4 (⟨(w64 (v4 + 1)),x11.f_Points,x11.f_Key⟩:G_Place)) e0))) else e0 v5)
def z33z_ (g:C_z33z) (a1:List G_Place) {R:Type} (k0:List G_Place→Option R):Option R :=
 (g.z60z a1 (fun r2=>(z33z_L3 g g.N (r2.length:Int) 0 r2 (fun e16=>k0 e16))))
noncomputable def yfjy [Fuel]:C_z33z:=⟨NN,@z60z _⟩
noncomputable def z33z [Fuel]:yAGy:=@z33z_ yfjy
def yo0y (g:yAGy):Spec A:=fun args=>match args with | [.arr 141 a1]=>fun k=>g a1 (fun z0=>k (.arr 141 z0) [.undef]) | _=>fun _=>none
def ymYy:SSt:=mkSh 45 1 [(0,.own 141 0),(7,.int .i64),(8,.int .i64)] [(0,.row 141)]
def yffy (g:C_z33z) (n:Nat):LPT A:=fun ps=>match ps with | [.d (.int .i64 p1),.d (.int .i64 p2),.d (.sl 141 p3)]=>fun K=>z33z_L3 g n p1 p2 p3 (fun z0=>K (.exit 0) (mkSt 45 1 [(0,.own 141 0)] [(0,some (.row 141 z0))])) | _=>fun _=>none
noncomputable def yEoy:Code:=(Tryz.f91.body).getD .skip
noncomputable def yr4y (g:C_z33z):Env A:=mkE [(133,ykcy g.z60z)] [] [(3,⟨[0,7,8],[],[0],[],[],[],[]⟩)] [(3,⟨[0],[],[0],[],[],[],[]⟩)] [(3,yady ymYy (yffy g g.N))] [] [] [] [(133,0)] []
theorem yM2y [Fuel]:yahy (yr4y yfjy).C:=ct_of (P:=Tryz.prog) (T:=T) (.cons yEdy .nil) (by kernel_rfl)
noncomputable def ytby:Code:=sub [1,1,0,1,0,0] yEoy
theorem yIpy (g:C_z33z) (n:Nat):yaiy (yr4y g) g.N ytby ymYy (yffy g) n:=by intro ps; unfold yffy; split; exact .inr fun R K=>(by kernel_rfl); exact .inl fun R K=>rfl
theorem yFWy [Fuel]:yaby (yr4y yfjy) NN ytby:=yacy ymYy (yffy yfjy) (by kernel_rfl) yM2y (cuts0 (fun _=>rfl) (by kernel_rfl)) (fun ps R K=>by unfold yffy; split <;> (try unfold z33z_L3) <;> rfl) (yIpy yfjy)
theorem yQly (g:C_z33z):Same (yo0y (@z33z_ g)) (abody (yr4y g) Tryz.f91 yEoy 1 [0] [.arr 141] g.N):=by intro args; unfold yo0y; split; exact .inr fun R k=>(by kernel_rfl); exact .inl fun R k=>rfl
theorem yCzy [Fuel]:Ok 91 (yo0y (@z33z _)):=yaay std (.cons yEdy .nil) ⟨rfl,rfl,by kernel_rfl,rfl,rfl,rfl⟩ (yQly yfjy) (cutsL (fun _=>rfl) (.cons yFWy .nil) (by kernel_rfl)) Tryz.func91 (by kernel_rfl) (by kernel_rfl)
abbrev yiJy:Type 1:=List G_Entrant→List UInt8→{R:Type}→(List G_Place→Int→Option R)→Option R
structure C_club_Table where
 N:Nat
 kit_IsKey:ybhy
 z52z:yx2y
 z33z:yAGy
def yccy (g:C_club_Table):Nat→List UInt8→List G_Entrant→Int→Int→List G_Place→{R:Type}→(List G_Place→Option R)→Option R
 | 0,_,_,_,_,_,_,_=>none
 | n + 1,v5,v6,v7,v8,v9,_,e0=>(bif (decide (v8 < v7)) then (get_ v6 v8 fun x11=>(bif (x11.f_Category == v5) then (bif (decide ((v9.length + [(⟨0,x11.f_Points,x11.f_Call⟩:G_Place)].length) * 32≤yagy)) then yccy g n v5 v6 v7 (w64 (v8 + 1)) (v9 ++ [(⟨0,x11.f_Points,x11.f_Call⟩:G_Place)]) e0 else none) else yccy g n v5 v6 v7 (w64 (v8 + 1)) v9 e0)) else e0 v9)
def yjOy (g:C_club_Table) (a1:List G_Entrant) (a2:List UInt8) {R:Type} (k0:List G_Place→Int→Option R):Option R :=
 (g.z52z a1 (fun r3=>(bif (r3 != 0) then k0 [] r3 else (g.kit_IsKey a2 (fun r4=>(bif (!r4) then k0 [] 5 else (yccy g g.N a2 a1 (a1.length:Int) 0 [] (fun e12=>(g.z33z e12 (fun r13=>k0 r13 0))))))))))
noncomputable def ybey [Fuel]:C_club_Table:=⟨NN,@kit_IsKey _,@z52z _,@z33z _⟩
noncomputable def club_Table [Fuel]:yiJy:=@yjOy ybey
def yeyy (g:yiJy):Spec A:=fun args=>match args with | [.d (.sl 99 a1),.d (.str a2)]=>fun k=>g a1 a2 (fun z0 z1=>k (.tup [.arr 141 z0,.d (.int .i64 z1)]) [.undef,.undef]) | _=>fun _=>none
def yeGy:SSt:=mkSh 39 5 [(1,.str),(7,.own 141 0),(18,.sl 99),(19,.int .i64),(20,.int .i64)] [(0,.row 141)]
def yb0y (g:C_club_Table) (n:Nat):LPT A:=fun ps=>match ps with | [.d (.str p1),.d (.sl 99 p2),.d (.int .i64 p3),.d (.int .i64 p4),.d (.sl 141 p5)]=>fun K=>yccy g n p1 p2 p3 p4 p5 (fun z0=>K (.exit 0) (mkSt 39 5 [(7,.own 141 0)] [(0,some (.row 141 z0))])) | _=>fun _=>none
noncomputable def yDzy:Code:=(Tryz.f47.body).getD .skip
noncomputable def yguy (g:C_club_Table):Env A:=mkE [(62,yaUy g.kit_IsKey),(90,ypSy g.z52z),(91,yo0y g.z33z)] [(9,[1]),(34,[2]),(35,[3]),(38,[4])] [(8,⟨[1,7,18,19,20],[(7,141,0)],[],[],[],[],[]⟩)] [(8,⟨[7],[],[0],[],[],[],[]⟩)] [(8,yady yeGy (yb0y g g.N))] [] [] [] [(91,0)] []
theorem ywyy [Fuel]:yahy (yguy ybey).C:=ct_of (P:=Tryz.prog) (T:=T) (.cons yaDy (.cons yDRy (.cons yCzy .nil))) (by kernel_rfl)
noncomputable def yiQy:Code:=sub [1,1,1,1,0,1,0,0] yDzy
theorem yt3y (g:C_club_Table) (n:Nat):yaiy (yguy g) g.N yiQy yeGy (yb0y g) n:=by intro ps; unfold yb0y; split; exact .inr fun R K=>(by kernel_rfl); exact .inl fun R K=>rfl
theorem yrby [Fuel]:yaby (yguy ybey) NN yiQy:=yacy yeGy (yb0y ybey) (by kernel_rfl) ywyy (cuts0 (fun _=>rfl) (by kernel_rfl)) (fun ps R K=>by unfold yb0y; split <;> (try unfold yccy) <;> rfl) (yt3y ybey)
theorem yw1y (g:C_club_Table):Same (yeyy (@yjOy g)) (abody (yguy g) Tryz.f47 yDzy 5 [] [.arr 141,.asis] g.N):=by intro args; unfold yeyy; split; exact .inr fun R k=>(by kernel_rfl); exact .inl fun R k=>rfl
theorem ywWy [Fuel]:Ok 47 (yeyy (@club_Table _)):=yaay std (.cons yaDy (.cons yDRy (.cons yCzy .nil))) ⟨rfl,rfl,by kernel_rfl,rfl,rfl,rfl⟩ (yw1y ybey) (cutsL (fun _=>rfl) (.cons yrby .nil) (by kernel_rfl)) Tryz.func47 (by kernel_rfl) (by kernel_rfl)
abbrev yuLy:Type 1:=G_Deed→{R:Type}→(Int→Option R)→Option R
structure C_z119z where
 N:Nat
 z94z:yrOy
def z119z_ (g:C_z119z) (a1:G_Deed) {R:Type} (k0:Int→Option R):Option R :=
 (g.z94z a1.f_Contact (fun r2=>(bif (r2 != 0) then k0 r2 else (bif (decide (a1.f_Contact.f_At > a1.f_At)) then k0 1 else k0 0))))
noncomputable def yDvy [Fuel]:C_z119z:=⟨NN,@z94z _⟩
noncomputable def z119z [Fuel]:yuLy:=@z119z_ yDvy
def yl4y (g:yuLy):Spec A:=fun args=>match args with | [.agg [.d (.str a1),.d (.int .i64 a2),.d (.int .i64 a3),.d (.int .i64 a4),.d (.int .i64 a5),.d (.int .i64 a6),.d (.str a7),.d (.str a8),.d (.int .i64 a9),.d (.int .i64 a10),.d (.str a11),.d (.str a12),.d (.str a13),.d (.str a14),.d (.int .i64 a15)]]=>fun k=>g ⟨a1,a2,a3,a4,⟨a5,a6,a7,a8,a9,a10,a11,a12⟩,a13,a14,a15⟩ (fun z0=>k (.d (.int .i64 z0)) [.undef]) | _=>fun _=>none
noncomputable def yJhy:Code:=(Tryz.f244.body).getD .skip
noncomputable def yMoy (g:C_z119z):Env A:=mkE [(128,yk3y g.z94z)] [(1,[0])] [] [] [] [] [] [] [] []
theorem yIRy (g:C_z119z):Same (yl4y (@z119z_ g)) (abody (yMoy g) Tryz.f244 yJhy 1 [] [.asis] g.N):=by intro args; unfold yl4y; split; exact .inr fun R k=>(by kernel_rfl); exact .inl fun R k=>rfl
theorem yJ0y [Fuel]:Ok 244 (yl4y (@z119z _)):=yaay std (.cons yvwy .nil) ⟨rfl,rfl,by kernel_rfl,rfl,rfl,rfl⟩ (yIRy yDvy) (cuts0 (fun _=>rfl) (by kernel_rfl)) Tryz.func244 (by kernel_rfl) (by kernel_rfl)
abbrev yury:Type 1:=G_Deed→{R:Type}→(Int→Option R)→Option R
structure C_z116z where
 N:Nat
 kit_IsKey:ybhy
 z48z:ycmy
 z119z:yuLy
def z116z_ (g:C_z116z) (a1:G_Deed) {R:Type} (k0:Int→Option R):Option R :=
 (bif (a1.f_Kind == 1) then (g.z119z a1 (fun r2=>k0 r2)) else (bif (a1.f_Kind == 2) then (g.kit_IsKey a1.f_Band (fun r3=>(bif (!r3) then k0 5 else k0 0))) else (bif (a1.f_Kind == 5) then (g.kit_IsKey a1.f_Of (fun r4=>(bif (!r4) then k0 5 else (g.z48z a1.f_Other 1 1000000 (fun r5=>(bif r5 then k0 1 else k0 0)))))) else (g.z48z a1.f_Contact.f_Sent 1 99999 (fun r6=>(bif r6 then k0 1 else k0 0))))))
noncomputable def yDPy [Fuel]:C_z116z:=⟨NN,@kit_IsKey _,@z48z _,@z119z _⟩
noncomputable def z116z [Fuel]:yury:=@z116z_ yDPy
def ymCy (g:yury):Spec A:=fun args=>match args with | [.agg [.d (.str a1),.d (.int .i64 a2),.d (.int .i64 a3),.d (.int .i64 a4),.d (.int .i64 a5),.d (.int .i64 a6),.d (.str a7),.d (.str a8),.d (.int .i64 a9),.d (.int .i64 a10),.d (.str a11),.d (.str a12),.d (.str a13),.d (.str a14),.d (.int .i64 a15)]]=>fun k=>g ⟨a1,a2,a3,a4,⟨a5,a6,a7,a8,a9,a10,a11,a12⟩,a13,a14,a15⟩ (fun z0=>k (.d (.int .i64 z0)) [.undef]) | _=>fun _=>none
noncomputable def yLly:Code:=(Tryz.f227.body).getD .skip
noncomputable def yLBy (g:C_z116z):Env A:=mkE [(62,yaUy g.kit_IsKey),(64,ybKy g.z48z),(244,yl4y g.z119z)] [(1,[0])] [] [] [] [] [] [] [] []
theorem yKAy (g:C_z116z):Same (ymCy (@z116z_ g)) (abody (yLBy g) Tryz.f227 yLly 1 [] [.asis] g.N):=by intro args; unfold ymCy; split; exact .inr fun R k=>(by kernel_rfl); exact .inl fun R k=>rfl
theorem yKcy [Fuel]:Ok 227 (ymCy (@z116z _)):=yaay std (.cons yaDy (.cons ybHy (.cons yJ0y .nil))) ⟨rfl,rfl,by kernel_rfl,rfl,rfl,rfl⟩ (yKAy yDPy) (cuts0 (fun _=>rfl) (by kernel_rfl)) Tryz.func227 (by kernel_rfl) (by kernel_rfl)
abbrev ylKy:Type 1:=G_Deed→{R:Type}→(Bool→Option R)→Option R
def yv1y (g:Nat) (a1:G_Deed) {R:Type} (k0:Bool→Option R):Option R :=
 (bif (a1.f_Kind == 3) then (bif (a1.f_Kind == 1) then (bif (a1.f_Kind == 2) then (bif (a1.f_Kind == 5) then k0 true else (bif (a1.f_Of == []) then k0 (a1.f_Other == 0) else k0 false)) else (bif (a1.f_Band == []) then (bif (a1.f_Kind == 5) then k0 true else (bif (a1.f_Of == []) then k0 (a1.f_Other == 0) else k0 false)) else k0 false)) else (bif (yiVy a1.f_Contact (⟨0,0,[],[],a1.f_Contact.f_Sent,0,[],[]⟩:G_Contact)) then (bif (a1.f_Kind == 2) then (bif (a1.f_Kind == 5) then k0 true else (bif (a1.f_Of == []) then k0 (a1.f_Other == 0) else k0 false)) else (bif (a1.f_Band == []) then (bif (a1.f_Kind == 5) then k0 true else (bif (a1.f_Of == []) then k0 (a1.f_Other == 0) else k0 false)) else k0 false)) else k0 false)) else (bif (a1.f_Kind == 4) then (bif (a1.f_Kind == 1) then (bif (a1.f_Kind == 2) then (bif (a1.f_Kind == 5) then k0 true else (bif (a1.f_Of == []) then k0 (a1.f_Other == 0) else k0 false)) else (bif (a1.f_Band == []) then (bif (a1.f_Kind == 5) then k0 true else (bif (a1.f_Of == []) then k0 (a1.f_Other == 0) else k0 false)) else k0 false)) else (bif (yiVy a1.f_Contact (⟨0,0,[],[],a1.f_Contact.f_Sent,0,[],[]⟩:G_Contact)) then (bif (a1.f_Kind == 2) then (bif (a1.f_Kind == 5) then k0 true else (bif (a1.f_Of == []) then k0 (a1.f_Other == 0) else k0 false)) else (bif (a1.f_Band == []) then (bif (a1.f_Kind == 5) then k0 true else (bif (a1.f_Of == []) then k0 (a1.f_Other == 0) else k0 false)) else k0 false)) else k0 false)) else (bif (a1.f_Kind == 1) then (bif (a1.f_Kind == 2) then (bif (a1.f_Kind == 5) then k0 true else (bif (a1.f_Of == []) then k0 (a1.f_Other == 0) else k0 false)) else (bif (a1.f_Band == []) then (bif (a1.f_Kind == 5) then k0 true else (bif (a1.f_Of == []) then k0 (a1.f_Other == 0) else k0 false)) else k0 false)) else (bif (yiVy a1.f_Contact (⟨0,0,[],[],0,0,[],[]⟩:G_Contact)) then (bif (a1.f_Kind == 2) then (bif (a1.f_Kind == 5) then k0 true else (bif (a1.f_Of == []) then k0 (a1.f_Other == 0) else k0 false)) else (bif (a1.f_Band == []) then (bif (a1.f_Kind == 5) then k0 true else (bif (a1.f_Of == []) then k0 (a1.f_Other == 0) else k0 false)) else k0 false)) else k0 false))))
noncomputable def net_idle [Fuel]:ylKy:=@yv1y NN
def yhay (g:ylKy):Spec A:=fun args=>match args with | [.agg [.d (.str a1),.d (.int .i64 a2),.d (.int .i64 a3),.d (.int .i64 a4),.d (.int .i64 a5),.d (.int .i64 a6),.d (.str a7),.d (.str a8),.d (.int .i64 a9),.d (.int .i64 a10),.d (.str a11),.d (.str a12),.d (.str a13),.d (.str a14),.d (.int .i64 a15)]]=>fun k=>g ⟨a1,a2,a3,a4,⟨a5,a6,a7,a8,a9,a10,a11,a12⟩,a13,a14,a15⟩ (fun z0=>k (.d (.bool z0)) [.undef]) | _=>fun _=>none
noncomputable def yJDy:Code:=(Tryz.f228.body).getD .skip
noncomputable def yFDy (g:Nat):Env A:=mkE [] [(1,[0]),(5,[1])] [] [] [] [] [] [] [] []
theorem yBVy (g:Nat):Same (yhay (@yv1y g)) (abody (yFDy g) Tryz.f228 yJDy 2 [] [.asis] g):=by intro args; unfold yhay; split; exact .inr fun R k=>(by kernel_rfl); exact .inl fun R k=>rfl
theorem yBoy [Fuel]:Ok 228 (yhay (@net_idle _)):=yaay std .nil ⟨rfl,rfl,by kernel_rfl,rfl,rfl,rfl⟩ (yBVy NN) (cuts0 (fun _=>rfl) (by kernel_rfl)) Tryz.func228 (by kernel_rfl) (by kernel_rfl)
abbrev yiSy:Type 1:=G_Deed→{R:Type}→(Int→Option R)→Option R
structure C_net_formed where
 N:Nat
 kit_IsKey:ybhy
 z48z:ycmy
 z71z:yfOy
 z116z:yury
 net_idle:ylKy
def yp0y (g:C_net_formed) (a1:G_Deed) {R:Type} (k0:Int→Option R):Option R :=
 (g.kit_IsKey a1.f_Site (fun r2=>(bif (!r2) then k0 5 else (g.z48z a1.f_No 1 1000000 (fun r3=>(bif r3 then k0 1 else (g.z71z a1.f_At (fun r4=>(bif (!r4) then k0 1 else (g.z48z a1.f_Kind 1 5 (fun r5=>(bif r5 then k0 4 else (g.z116z a1 (fun r6=>(bif (r6 != 0) then k0 r6 else (g.net_idle a1 (fun r7=>(bif (!r7) then k0 3 else k0 0))))))))))))))))))
noncomputable def yoiy [Fuel]:C_net_formed:=⟨NN,@kit_IsKey _,@z48z _,@z71z _,@z116z _,@net_idle _⟩
noncomputable def net_formed [Fuel]:yiSy:=@yp0y yoiy
def yezy (g:yiSy):Spec A:=fun args=>match args with | [.agg [.d (.str a1),.d (.int .i64 a2),.d (.int .i64 a3),.d (.int .i64 a4),.d (.int .i64 a5),.d (.int .i64 a6),.d (.str a7),.d (.str a8),.d (.int .i64 a9),.d (.int .i64 a10),.d (.str a11),.d (.str a12),.d (.str a13),.d (.str a14),.d (.int .i64 a15)]]=>fun k=>g ⟨a1,a2,a3,a4,⟨a5,a6,a7,a8,a9,a10,a11,a12⟩,a13,a14,a15⟩ (fun z0=>k (.d (.int .i64 z0)) [.undef]) | _=>fun _=>none
noncomputable def yK6y:Code:=(Tryz.f209.body).getD .skip
noncomputable def yzRy (g:C_net_formed):Env A:=mkE [(62,yaUy g.kit_IsKey),(64,ybKy g.z48z),(65,ydgy g.z71z),(227,ymCy g.z116z),(228,yhay g.net_idle)] [(1,[0])] [] [] [] [] [] [] [] []
theorem ywPy (g:C_net_formed):Same (yezy (@yp0y g)) (abody (yzRy g) Tryz.f209 yK6y 1 [] [.asis] g.N):=by intro args; unfold yezy; split; exact .inr fun R k=>(by kernel_rfl); exact .inl fun R k=>rfl
theorem ym7y [Fuel]:Ok 209 (yezy (@net_formed _)):=yaay std (.cons yaDy (.cons ybHy (.cons yeTy (.cons yKcy (.cons yBoy .nil))))) ⟨rfl,rfl,by kernel_rfl,rfl,rfl,rfl⟩ (ywPy yoiy) (cuts0 (fun _=>rfl) (by kernel_rfl)) Tryz.func209 (by kernel_rfl) (by kernel_rfl)
abbrev yvky:Type 1:=G_Deed→G_Deed→{R:Type}→(Int→Option R)→Option R
structure C_z120z where
 N:Nat
 z29z:yfyy
 z40z:yfgy
 strings_Compare:yaQy
def z120z_ (g:C_z120z) (a1 a2:G_Deed) {R:Type} (k0:Int→Option R):Option R :=
 (g.z29z a1.f_At a2.f_At (fun r3=>(g.strings_Compare a1.f_Site a2.f_Site (fun r4=>(g.z29z a1.f_No a2.f_No (fun r5=>(g.z40z [r3,r4,r5] (fun r6=>k0 r6))))))))
noncomputable def yDWy [Fuel]:C_z120z:=⟨NN,@z29z _,@z40z _,@strings_Compare _⟩
noncomputable def z120z [Fuel]:yvky:=@z120z_ yDWy
def yl6y (g:yvky):Spec A:=fun args=>match args with | [.agg [.d (.str a1),.d (.int .i64 a2),.d (.int .i64 a3),.d (.int .i64 a4),.d (.int .i64 a5),.d (.int .i64 a6),.d (.str a7),.d (.str a8),.d (.int .i64 a9),.d (.int .i64 a10),.d (.str a11),.d (.str a12),.d (.str a13),.d (.str a14),.d (.int .i64 a15)],.agg [.d (.str a16),.d (.int .i64 a17),.d (.int .i64 a18),.d (.int .i64 a19),.d (.int .i64 a20),.d (.int .i64 a21),.d (.str a22),.d (.str a23),.d (.int .i64 a24),.d (.int .i64 a25),.d (.str a26),.d (.str a27),.d (.str a28),.d (.str a29),.d (.int .i64 a30)]]=>fun k=>g ⟨a1,a2,a3,a4,⟨a5,a6,a7,a8,a9,a10,a11,a12⟩,a13,a14,a15⟩ ⟨a16,a17,a18,a19,⟨a20,a21,a22,a23,a24,a25,a26,a27⟩,a28,a29,a30⟩ (fun z0=>k (.d (.int .i64 z0)) [.undef,.undef]) | _=>fun _=>none
noncomputable def yJNy:Code:=(Tryz.f210.body).getD .skip
noncomputable def yNqy (g:C_z120z):Env A:=mkE [(52,ybFy g.z29z),(75,ybGy g.z40z),(76,yazy g.strings_Compare)] [(2,[0]),(3,[1]),(20,[2])] [] [] [] [] [] [] [] []
theorem yJvy (g:C_z120z):Same (yl6y (@z120z_ g)) (abody (yNqy g) Tryz.f210 yJNy 3 [] [.asis] g.N):=by intro args; unfold yl6y; split; exact .inr fun R k=>(by kernel_rfl); exact .inl fun R k=>rfl
theorem yAey [Fuel]:Ok 210 (yl6y (@z120z _)):=yaay std (.cons ye2y (.cons yeVy (.cons yaYy .nil))) ⟨rfl,rfl,by kernel_rfl,rfl,rfl,rfl⟩ (yJvy yDWy) (cuts0 (fun _=>rfl) (by kernel_rfl)) Tryz.func210 (by kernel_rfl) (by kernel_rfl)
abbrev yAxy:Type 1:=List G_Deed→{R:Type}→(Int→Option R)→Option R
structure C_z49z where
 N:Nat
 net_formed:yiSy
 z120z:yvky
def z49z_L4 (g:C_z49z):Nat→List G_Deed→List G_Deed→Int→Int→{R:Type}→(List G_Deed→Int→Option R)→(List G_Deed→Option R)→Option R
 | 0,_,_,_,_,_,_,_=>none
 | n + 1,v2,v3,v4,v5,_,e0,e1=>(bif (decide (v5 < v4)) then (get_ v3 v5 fun x10=>(g.net_formed x10 (fun r11=>(bif (r11 != 0) then e0 v2 r11 else (bif (decide (v5 > 0)) then (get_ v2 (w64 (v5 - 1)) fun x12=>(g.z120z x12 x10 (fun r13=>(bif (decide (r13 ≥ 0)) then e0 v2 7 else z49z_L4 g n v2 v3 v4 (w64 (v5 + 1)) e0 e1)))) else z49z_L4 g n v2 v3 v4 (w64 (v5 + 1)) e0 e1))))) else e1 v2)
def z49z_L14 (g:C_z49z):Nat→List G_Deed→Int→Int→List (G_net_own×Bool)→{R:Type}→(Int→Option R)→Option R→Option R
 | 0,_,_,_,_,_,_,_=>none
 | n + 1,v17,v18,v19,v20,_,e0,e1=>(bif (decide (v19 < v18)) then (get_ v17 v19 fun x22=>(bif ((ybVy (⟨x22.f_Site,x22.f_No⟩:G_net_own) v20).getD false) then e0 6 else z49z_L14 g n v17 v18 (w64 (v19 + 1)) (ya4y (⟨x22.f_Site,x22.f_No⟩:G_net_own) true v20) e0 e1)) else e1)
def z49z_ (g:C_z49z) (a1:List G_Deed) {R:Type} (k0:Int→Option R):Option R :=
 (bif (decide ((a1.length:Int) > 2000)) then k0 2 else (z49z_L4 g g.N a1 a1 (a1.length:Int) 0 (fun e14 e15=>k0 e15) (fun e16=>(z49z_L14 g g.N e16 (e16.length:Int) 0 [] (fun e23=>k0 e23) (k0 0)))))
noncomputable def ygpy [Fuel]:C_z49z:=⟨NN,@net_formed _,@z120z _⟩
noncomputable def z49z [Fuel]:yAxy:=@z49z_ ygpy
def ypOy (g:yAxy):Spec A:=fun args=>match args with | [.d (.sl 104 a1)]=>fun k=>g a1 (fun z0=>k (.d (.int .i64 z0)) [.undef]) | _=>fun _=>none
def ymwy:SSt:=mkSh 56 4 [(0,.sl 104),(13,.sl 104),(14,.int .i64),(15,.int .i64)] []
def ygay (g:C_z49z) (n:Nat):LPT A:=fun ps=>match ps with | [.d (.sl 104 p1),.d (.sl 104 p2),.d (.int .i64 p3),.d (.int .i64 p4)]=>fun K=>z49z_L4 g n p1 p2 p3 p4 (fun z0 z1=>K .ret (mkSt 56 4 [(0,.d (.sl 104 z0)),(2,.d (.int .i64 z1))] [])) (fun z0=>K (.exit 0) (mkSt 56 4 [(0,.d (.sl 104 z0))] [])) | _=>fun _=>none
def yjTy:SSt:=mkSh 56 4 [(6,.mp 1),(39,.sl 104),(40,.int .i64),(41,.int .i64)] [(1,.mp 223 4)]
def yeny (g:C_z49z) (n:Nat):LPT A:=fun ps=>match ps with | [.d (.sl 104 p1),.d (.int .i64 p2),.d (.int .i64 p3),.mp 223 4 p4]=>fun K=>z49z_L14 g n p1 p2 p3 p4 (fun z0=>K .ret (mkSt 56 4 [(2,.d (.int .i64 z0))] [])) (K (.exit 2) (mkSt 56 4 [] [])) | _=>fun _=>none
noncomputable def yray:Code:=(Tryz.f170.body).getD .skip
noncomputable def ykqy (g:C_z49z):Env A:=mkE [(209,yezy g.net_formed),(210,yl6y g.z120z)] [(4,[0]),(8,[2]),(9,[3]),(38,[1])] [(4,⟨[0,13,14,15],[],[],[],[],[],[]⟩),(14,⟨[6,39,40,41],[],[1],[],[],[],[]⟩)] [(4,⟨[0,2],[],[],[],[],[],[]⟩),(14,⟨[2],[],[],[],[],[],[]⟩)] [(4,yady ymwy (ygay g g.N)),(14,yady yjTy (yeny g g.N))] [] [] [] [] []
theorem yDDy [Fuel]:yahy (ykqy ygpy).C:=ct_of (P:=Tryz.prog) (T:=T) (.cons ym7y (.cons yAey .nil)) (by kernel_rfl)
noncomputable def ytTy:Code:=sub [1,1,0,1,0,0] yray
theorem yHny (g:C_z49z) (n:Nat):yaiy (ykqy g) g.N ytTy ymwy (ygay g) n:=by intro ps; unfold ygay; split; exact .inr fun R K=>(by kernel_rfl); exact .inl fun R K=>rfl
theorem yFMy [Fuel]:yaby (ykqy ygpy) NN ytTy:=yacy ymwy (ygay ygpy) (by kernel_rfl) yDDy (cuts0 (fun _=>rfl) (by kernel_rfl)) (fun ps R K=>by unfold ygay; split <;> (try unfold z49z_L4) <;> rfl) (yHny ygpy)
noncomputable def ypZy:Code:=sub [1,1,1,1,0,1,0,0] yray
theorem yF4y (g:C_z49z) (n:Nat):yaiy (ykqy g) g.N ypZy yjTy (yeny g) n:=by intro ps; unfold yeny; split; exact .inr fun R K=>(by kernel_rfl); exact .inl fun R K=>rfl
theorem yBuy [Fuel]:yaby (ykqy ygpy) NN ypZy:=yacy yjTy (yeny ygpy) (by kernel_rfl) yDDy (cuts0 (fun _=>rfl) (by kernel_rfl)) (fun ps R K=>by unfold yeny; split <;> (try unfold z49z_L14) <;> rfl) (yF4y ygpy)
theorem yONy (g:C_z49z):Same (ypOy (@z49z_ g)) (abody (ykqy g) Tryz.f170 yray 4 [] [.asis] g.N):=by intro args; unfold ypOy; split; exact .inr fun R k=>(by kernel_rfl); exact .inl fun R k=>rfl
theorem yPWy [Fuel]:Ok 170 (ypOy (@z49z _)):=yaay std (.cons ym7y (.cons yAey .nil)) ⟨rfl,rfl,by kernel_rfl,rfl,rfl,rfl⟩ (yONy ygpy) (cutsL (fun _=>rfl) (.cons yFMy (.cons yBuy .nil)) (by kernel_rfl)) Tryz.func170 (by kernel_rfl) (by kernel_rfl)
abbrev yuWy:Type 1:=List G_Deed→Int→{R:Type}→(Int→Option R)→Option R
structure C_z110z where
 N:Nat
 z71z:yfOy
 z49z:yAxy
def z110z_ (g:C_z110z) (a1:List G_Deed) (a2:Int) {R:Type} (k0:Int→Option R):Option R :=
 (g.z49z a1 (fun r3=>(bif (r3 != 0) then k0 r3 else (g.z71z a2 (fun r4=>(bif (!r4) then k0 1 else k0 0))))))
noncomputable def yCHy [Fuel]:C_z110z:=⟨NN,@z71z _,@z49z _⟩
noncomputable def z110z [Fuel]:yuWy:=@z110z_ yCHy
def ymFy (g:yuWy):Spec A:=fun args=>match args with | [.d (.sl 104 a1),.d (.int .i64 a2)]=>fun k=>g a1 a2 (fun z0=>k (.d (.int .i64 z0)) [.undef,.undef]) | _=>fun _=>none
noncomputable def yIVy:Code:=(Tryz.f135.body).getD .skip
noncomputable def yOhy (g:C_z110z):Env A:=mkE [(65,ydgy g.z71z),(170,ypOy g.z49z)] [] [] [] [] [] [] [] [] []
theorem yJ1y (g:C_z110z):Same (ymFy (@z110z_ g)) (abody (yOhy g) Tryz.f135 yIVy 0 [] [.asis] g.N):=by intro args; unfold ymFy; split; exact .inr fun R k=>(by kernel_rfl); exact .inl fun R k=>rfl
theorem yKHy [Fuel]:Ok 135 (ymFy (@z110z _)):=yaay std (.cons yeTy (.cons yPWy .nil)) ⟨rfl,rfl,by kernel_rfl,rfl,rfl,rfl⟩ (yJ1y yCHy) (cuts0 (fun _=>rfl) (by kernel_rfl)) Tryz.func135 (by kernel_rfl) (by kernel_rfl)
abbrev yvny:Type 1:=List G_Deed→{R:Type}→(List G_Deed→Option R)→Option R
def z103z_ (g:Nat) (a1:List G_Deed) {R:Type} (k0:List G_Deed→Option R):Option R :=
 k0 a1
noncomputable def z103z [Fuel]:yvny:=@z103z_ NN
def yluy (g:yvny):Spec A:=fun args=>match args with | [.d (.sl 104 a1)]=>fun k=>g a1 (fun z0=>k (.fn 229 [.box [.d (.sl 104 z0)]]) [.undef]) | _=>fun _=>none
noncomputable def yLgy:Code:=(Tryz.f211.body).getD .skip
noncomputable def yO7y (g:Nat):Env A:=mkE [] [(1,[0])] [] [] [] [] [] [] [] []
theorem yK0y (g:Nat):Same (yluy (@z103z_ g)) (abody (yO7y g) Tryz.f211 yLgy 1 [] [.asis] g):=by intro args; unfold yluy; split; exact .inr fun R k=>(by kernel_rfl); exact .inl fun R k=>rfl
theorem yxIy [Fuel]:Ok 211 (yluy (@z103z _)):=yaay std .nil ⟨rfl,rfl,by kernel_rfl,rfl,rfl,rfl⟩ (yK0y NN) (cuts0 (fun _=>rfl) (by kernel_rfl)) Tryz.func211 (by kernel_rfl) (by kernel_rfl)
end Go.Am
