/- The functions of the program as Lean functions, each shown to be what the code computes, part 5. No condition: lemmas for the claim. -/
import Derived.Test.YtnlblmnoiepeaaaGreatDoorF0
import Derived.Test.YtnlblmnoiepeaaaGreatDoorFSh
import Derived.Test.YtnlblmnoiepeaaaGreatDoorF1
import Derived.Test.YtnlblmnoiepeaaaGreatDoorF4
set_option linter.unusedVariables false
set_option maxRecDepth 100000
namespace Go.Am
open Go Go.Proofs
abbrev ywly:Type 1:=G_Spot→G_Spot→{R:Type}→(Int→Option R)→Option R
structure C_z74z where
 N:Nat
 strings_Compare:ybay
 z35z:yhay
 z25z:yhey
def z74z_ (g:C_z74z) (a1 a2:G_Spot) {R:Type} (k0:Int→Option R):Option R :=
 (g.z25z a1.f_At a2.f_At (fun r3=>(g.z25z a1.f_Hertz a2.f_Hertz (fun r4=>(g.strings_Compare a1.f_Call a2.f_Call (fun r5=>(g.strings_Compare a1.f_By a2.f_By (fun r6=>(g.z35z [r3,r4,r5,r6] (fun r7=>k0 r7))))))))))
noncomputable def yy8y [Fuel]:C_z74z:=⟨NN,@strings_Compare _,@z35z _,@z25z _⟩
noncomputable def z74z [Fuel]:ywly:=@z74z_ yy8y
def yovy (g:ywly):Spec A:=fun args=>match args with | [.agg [.d (.int .i64 a1),.d (.int .i64 a2),.d (.str a3),.d (.str a4)],.agg [.d (.int .i64 a5),.d (.int .i64 a6),.d (.str a7),.d (.str a8)]]=>fun k=>g ⟨a1,a2,a3,a4⟩ ⟨a5,a6,a7,a8⟩ (fun z0=>k (.d (.int .i64 z0)) [.undef,.undef]) | _=>fun _=>none
noncomputable def yGTy:Code:=(Tryz.f119.body).getD .skip
noncomputable def yOBy (g:C_z74z):Env A:=mkE [(116,yaGy g.strings_Compare),(121,ybVy g.z35z),(122,ybYy g.z25z)] [(2,[0]),(3,[1]),(25,[2])] [] [] [] [] [] [] [] []
theorem yJwy (g:C_z74z):Same (yovy (@z74z_ g)) (abody (yOBy g) Tryz.f119 yGTy 3 [] [.asis] g.N):=by intro args; unfold yovy; split; exact .inr fun R k=>(by kernel_rfl); exact .inl fun R k=>rfl
theorem yBqy [Fuel]:Ok 119 (yovy (@z74z _)):=yaay std (.cons ybiy (.cons ygcy (.cons ygfy .nil))) ⟨rfl,rfl,by kernel_rfl,rfl,rfl,rfl⟩ (yJwy yy8y) (cuts0 (fun _=>rfl) (by kernel_rfl)) Tryz.func119 (by kernel_rfl) (by kernel_rfl)
abbrev yxry:Type 1:=List G_Spot→{R:Type}→(Int→Option R)→Option R
structure C_z42z where
 N:Nat
 z45z:ycHy
 z62z:yhpy
 call_Is:yhfy
 z74z:ywly
def z42z_L4 (g:C_z42z):Nat→List G_Spot→List G_Spot→Int→Int→{R:Type}→(Int→Option R)→Option R→Option R
 | 0,_,_,_,_,_,_,_=>none
 | n + 1,v2,v3,v4,v5,_,e0,e1=>(bif (decide (v5 < v4)) then (get_ v3 v5 fun x13=>(g.z62z x13.f_At (fun r14=>(bif (!r14) then e0 1 else (g.z45z x13.f_Hertz 0 30000000000 (fun r15=>(bif r15 then e0 1 else (g.call_Is x13.f_Call (fun r16=>(bif (!r16) then e0 3 else (g.call_Is x13.f_By (fun r17=>(bif (!r17) then e0 3 else (bif (decide (v5 > 0)) then (get_ v2 (w64 (v5 - 1)) fun x18=>(g.z74z x18 x13 (fun r19=>(bif (decide (r19 ≥ 0)) then e0 7 else z42z_L4 g n v2 v3 v4 (w64 (v5 + 1)) e0 e1)))) else z42z_L4 g n v2 v3 v4 (w64 (v5 + 1)) e0 e1)))))))))))))) else e1)
def z42z_ (g:C_z42z) (a1:List G_Spot) {R:Type} (k0:Int→Option R):Option R :=
 (bif (decide ((a1.length:Int) > 2000)) then k0 2 else (z42z_L4 g g.N a1 a1 (a1.length:Int) 0 (fun e20=>k0 e20) (k0 0)))
noncomputable def yc5y [Fuel]:C_z42z:=⟨NN,@z45z _,@z62z _,@call_Is _,@z74z _⟩
noncomputable def z42z [Fuel]:yxry:=@z42z_ yc5y
def yn2y (g:yxry):Spec A:=fun args=>match args with | [.d (.sl 42 a1)]=>fun k=>g a1 (fun z0=>k (.d (.int .i64 z0)) [.undef]) | _=>fun _=>none
def ylcy:SSt:=mkSh 50 1 [(0,.sl 42),(8,.sl 42),(9,.int .i64),(10,.int .i64)] []
def ye4y (g:C_z42z) (n:Nat):LPT A:=fun ps=>match ps with | [.d (.sl 42 p1),.d (.sl 42 p2),.d (.int .i64 p3),.d (.int .i64 p4)]=>fun K=>z42z_L4 g n p1 p2 p3 p4 (fun z0=>K .ret (mkSt 50 1 [(2,.d (.int .i64 z0))] [])) (K (.exit 0) (mkSt 50 1 [] [])) | _=>fun _=>none
noncomputable def yBQy:Code:=(Tryz.f71.body).getD .skip
noncomputable def yqWy (g:C_z42z):Env A:=mkE [(42,ybWy g.z45z),(74,ydKy g.z62z),(118,ydPy g.call_Is),(119,yovy g.z74z)] [(4,[0])] [(4,⟨[0,8,9,10],[],[],[],[],[],[]⟩)] [(4,⟨[2],[],[],[],[],[],[]⟩)] [(4,yafy ylcy (ye4y g g.N))] [] [] [] [] []
theorem yKPy [Fuel]:yahy (yqWy yc5y).C:=ct_of (P:=Tryz.prog) (T:=T) (.cons ybZy (.cons ygdy (.cons ydFy (.cons yBqy .nil)))) (by kernel_rfl)
noncomputable def ysvy:Code:=sub [1,1,0,1,0,0] yBQy
theorem yD4y (g:C_z42z) (n:Nat):yaky (yqWy g) g.N ysvy ylcy (ye4y g) n:=by intro ps; unfold ye4y; split; exact .inr fun R K=>(by kernel_rfl); exact .inl fun R K=>rfl
theorem yCXy [Fuel]:yacy (yqWy yc5y) NN ysvy:=yaey ylcy (ye4y yc5y) (by kernel_rfl) yKPy (cuts0 (fun _=>rfl) (by kernel_rfl)) (fun ps R K=>by unfold ye4y; split <;> (try unfold z42z_L4) <;> rfl) (yD4y yc5y)
theorem yJWy (g:C_z42z):Same (yn2y (@z42z_ g)) (abody (yqWy g) Tryz.f71 yBQy 1 [] [.asis] g.N):=by intro args; unfold yn2y; split; exact .inr fun R k=>(by kernel_rfl); exact .inl fun R k=>rfl
theorem yK5y [Fuel]:Ok 71 (yn2y (@z42z _)):=yaay std (.cons ybZy (.cons ygdy (.cons ydFy (.cons yBqy .nil)))) ⟨rfl,rfl,by kernel_rfl,rfl,rfl,rfl⟩ (yJWy yc5y) (cutsL (fun _=>rfl) (.cons yCXy .nil) (by kernel_rfl)) Tryz.func71 (by kernel_rfl) (by kernel_rfl)
abbrev yjFy:Type 1:=List G_Band→List G_Spot→{R:Type}→(Int→Option R)→Option R
structure C_z57z where
 N:Nat
 z9z:T_z9z
 z42z:yxry
def z57z_ (g:C_z57z) (a1:List G_Band) (a2:List G_Spot) {R:Type} (k0:Int→Option R):Option R :=
 (g.z9z a1 (fun r3=>(bif (r3 != 0) then k0 r3 else (g.z42z a2 (fun r4=>k0 r4)))))
noncomputable def yvOy [Fuel]:C_z57z:=⟨NN,@z9z _,@z42z _⟩
noncomputable def z57z [Fuel]:yjFy:=@z57z_ yvOy
def ygby (g:yjFy):Spec A:=fun args=>match args with | [.d (.sl 62 a1),.d (.sl 42 a2)]=>fun k=>g a1 a2 (fun z0=>k (.d (.int .i64 z0)) [.undef,.undef]) | _=>fun _=>none
noncomputable def yJgy:Code:=(Tryz.f31.body).getD .skip
noncomputable def yOgy (g:C_z57z):Env A:=mkE [(41,ym8y g.z9z),(71,yn2y g.z42z)] [] [] [] [] [] [] [] [] []
theorem yLUy (g:C_z57z):Same (ygby (@z57z_ g)) (abody (yOgy g) Tryz.f31 yJgy 0 [] [.asis] g.N):=by intro args; unfold ygby; split; exact .inr fun R k=>(by kernel_rfl); exact .inl fun R k=>rfl
theorem ygiy [Fuel]:Ok 31 (ygby (@z57z _)):=yaay std (.cons yD5y (.cons yK5y .nil)) ⟨rfl,rfl,by kernel_rfl,rfl,rfl,rfl⟩ (yLUy yvOy) (cuts0 (fun _=>rfl) (by kernel_rfl)) Tryz.func31 (by kernel_rfl) (by kernel_rfl)
abbrev yjBy:Type 1:=Int→Int→Int→{R:Type}→(Int→Option R)→Option R
structure C_z56z where
 N:Nat
 z45z:ycHy
 z62z:yhpy
def z56z_ (g:C_z56z) (a1 a2 a3:Int) {R:Type} (k0:Int→Option R):Option R :=
 (g.z45z a1 1 86400000 (fun r4=>(bif r4 then k0 1 else (g.z62z a2 (fun r5=>(bif (!r5) then k0 1 else (g.z45z a3 0 30000000000 (fun r6=>(bif r6 then k0 1 else k0 0)))))))))
noncomputable def yxTy [Fuel]:C_z56z:=⟨NN,@z45z _,@z62z _⟩
noncomputable def z56z [Fuel]:yjBy:=@z56z_ yxTy
def ygly (g:yjBy):Spec A:=fun args=>match args with | [.d (.int .i64 a1),.d (.int .i64 a2),.d (.int .i64 a3)]=>fun k=>g a1 a2 a3 (fun z0=>k (.d (.int .i64 z0)) [.undef,.undef,.undef]) | _=>fun _=>none
noncomputable def yM6y:Code:=(Tryz.f34.body).getD .skip
noncomputable def yOFy (g:C_z56z):Env A:=mkE [(42,ybWy g.z45z),(74,ydKy g.z62z)] [] [] [] [] [] [] [] [] []
theorem yM8y (g:C_z56z):Same (ygly (@z56z_ g)) (abody (yOFy g) Tryz.f34 yM6y 0 [] [.asis] g.N):=by intro args; unfold ygly; split; exact .inr fun R k=>(by kernel_rfl); exact .inl fun R k=>rfl
theorem yf7y [Fuel]:Ok 34 (ygly (@z56z _)):=yaay std (.cons ybZy (.cons ygdy .nil)) ⟨rfl,rfl,by kernel_rfl,rfl,rfl,rfl⟩ (yM8y yxTy) (cuts0 (fun _=>rfl) (by kernel_rfl)) Tryz.func34 (by kernel_rfl) (by kernel_rfl)
abbrev yzhy:Type 1:=List G_Spot→{R:Type}→(List G_Spot→Option R)→Option R
def z83z_ (g:Nat) (a1:List G_Spot) {R:Type} (k0:List G_Spot→Option R):Option R :=
 k0 a1
noncomputable def z83z [Fuel]:yzhy:=@z83z_ NN
def yory (g:yzhy):Spec A:=fun args=>match args with | [.d (.sl 42 a1)]=>fun k=>g a1 (fun z0=>k (.fn 127 [.box [.d (.sl 42 z0)]]) [.undef]) | _=>fun _=>none
noncomputable def yLqy:Code:=(Tryz.f76.body).getD .skip
noncomputable def yNEy (g:Nat):Env A:=mkE [] [(1,[0])] [] [] [] [] [] [] [] []
theorem yK0y (g:Nat):Same (yory (@z83z_ g)) (abody (yNEy g) Tryz.f76 yLqy 1 [] [.asis] g):=by intro args; unfold yory; split; exact .inr fun R k=>(by kernel_rfl); exact .inl fun R k=>rfl
theorem yA4y [Fuel]:Ok 76 (yory (@z83z _)):=yaay std .nil ⟨rfl,rfl,by kernel_rfl,rfl,rfl,rfl⟩ (yK0y NN) (cuts0 (fun _=>rfl) (by kernel_rfl)) Tryz.func76 (by kernel_rfl) (by kernel_rfl)
abbrev ykOy:Type 1:=G_Band→Int→{R:Type}→(Bool→Int→Option R)→Option R
def ymzy (g:Nat) (a1:G_Band) (a2:Int) {R:Type} (k0:Bool→Int→Option R):Option R :=
 (bif (decide (a1.f_Low≤a2)) then k0 (decide (a2 < a1.f_High)) a2 else k0 false a2)
noncomputable def log_At_1 [Fuel]:ykOy:=@ymzy NN
def ygHy (g:ykOy):Spec A:=fun args=>match args with | [.agg [.d (.str a1),.d (.int .i64 a2),.d (.int .i64 a3)],.box [.d (.int .i64 a4)]]=>fun k=>g ⟨a1,a2,a3⟩ a4 (fun z0 z1=>k (.d (.bool z0)) [.undef,.box [.d (.int .i64 z1)]]) | _=>fun _=>none
noncomputable def yKby:Code:=(Tryz.f84.body).getD .skip
noncomputable def yC8y (g:Nat):Env A:=mkE [] [(2,[1])] [] [] [] [] [] [] [] [1]
theorem yAgy (g:Nat):Same (ygHy (@ymzy g)) (abody (yC8y g) Tryz.f84 yKby 2 [0] [.asis] g):=by intro args; unfold ygHy; split; exact .inr fun R k=>(by kernel_rfl); exact .inl fun R k=>rfl
theorem ypny [Fuel]:Ok 84 (ygHy (@log_At_1 _)):=yaay std .nil ⟨rfl,rfl,by kernel_rfl,rfl,rfl,rfl⟩ (yAgy NN) (cuts0 (fun _=>rfl) (by kernel_rfl)) Tryz.func84 (by kernel_rfl) (by kernel_rfl)
abbrev ywNy:Type 1:=List G_Band→Int→{R:Type}→(Int→Int→Option R)→Option R
structure C_z14z where
 N:Nat
 log_At_1:ykOy
def z14z_L2 (g:C_z14z):Nat→List G_Band→Int→Int→Int→{R:Type}→(Int→Int→Option R)→(Int→Option R)→Option R
 | 0,_,_,_,_,_,_,_=>none
 | n + 1,v3,v4,v5,v6,_,e0,e1=>(bif (decide (v5 < v4)) then (get_ v3 v5 fun x10=>(g.log_At_1 x10 v6 (fun r11 r12=>(bif r11 then e0 v5 r12 else z14z_L2 g n v3 v4 (w64 (v5 + 1)) r12 e0 e1)))) else e1 v6)
def z14z_ (g:C_z14z) (a1:List G_Band) (a2:Int) {R:Type} (k0:Int→Int→Option R):Option R :=
 (z14z_L2 g g.N a1 (a1.length:Int) 0 a2 (fun e13 e14=>k0 e13 e14) (fun e15=>k0 (-1) e15))
noncomputable def yiwy [Fuel]:C_z14z:=⟨NN,@log_At_1 _⟩
noncomputable def z14z [Fuel]:ywNy:=@z14z_ yiwy
def yoAy (g:ywNy):Spec A:=fun args=>match args with | [.d (.sl 62 a1),.fn 84 [.box [.d (.int .i64 a2)]]]=>fun k=>g a1 a2 (fun z0 z1=>k (.d (.int .i64 z0)) [.undef,.fn 84 [.box [.d (.int .i64 z1)]]]) | _=>fun _=>none
def ylJy:SSt:=mkSh 19 1 [(0,.sl 62),(1,.fn 84 [.ptr 0 0]),(7,.int .i64),(8,.int .i64)] [(0,.box [.int .i64])]
def yfIy (g:C_z14z) (n:Nat):LPT A:=fun ps=>match ps with | [.d (.sl 62 p1),.d (.int .i64 p2),.d (.int .i64 p3),.d (.int .i64 p4)]=>fun K=>z14z_L2 g n p1 p2 p3 p4 (fun z0 z1=>K .ret (mkSt 19 1 [(1,.fn 84 [.ptr 0 0]),(4,.d (.int .i64 z0))] [(0,some (.box [.d (.int .i64 z1)]))])) (fun z0=>K (.exit 0) (mkSt 19 1 [(1,.fn 84 [.ptr 0 0])] [(0,some (.box [.d (.int .i64 z0)]))])) | _=>fun _=>none
noncomputable def ysGy (g:C_z14z):Env A:=mkE [(84,ygHy g.log_At_1)] [] [(2,⟨[0,1,7,8],[],[0],[],[],[],[]⟩)] [(2,⟨[1,4],[],[0],[],[],[],[]⟩)] [(2,yafy ylJy (yfIy g g.N))] [] [] [] [] [1]
theorem yLiy [Fuel]:yahy (ysGy yiwy).C:=ct_of (P:=Tryz.prog) (T:=T) (.cons ypny .nil) (by kernel_rfl)
noncomputable def yrfy:Code:=sub [1,0,1,0,0] yoDy
theorem yFmy (g:C_z14z) (n:Nat):yaky (ysGy g) g.N yrfy ylJy (yfIy g) n:=by intro ps; unfold yfIy; split; exact .inr fun R K=>(by kernel_rfl); exact .inl fun R K=>rfl
theorem yCvy [Fuel]:yacy (ysGy yiwy) NN yrfy:=yaey ylJy (yfIy yiwy) (by kernel_rfl) yLiy (cuts0 (fun _=>rfl) (by kernel_rfl)) (fun ps R K=>by unfold yfIy; split <;> (try unfold z14z_L2) <;> rfl) (yFmy yiwy)
theorem yJsy (g:C_z14z):Same (yoAy (@z14z_ g)) (abody (ysGy g) Tryz.f83 yoDy 1 [0] [.asis] g.N):=by intro args; unfold yoAy; split; exact .inr fun R k=>(by kernel_rfl); exact .inl fun R k=>rfl
theorem yJry [Fuel]:Ok 83 (yoAy (@z14z _)):=yaay std (.cons ypny .nil) ⟨rfl,rfl,by kernel_rfl,rfl,rfl,rfl⟩ (yJsy yiwy) (cutsL (fun _=>rfl) (.cons yCvy .nil) (by kernel_rfl)) Tryz.func83 (by kernel_rfl) (by kernel_rfl)
abbrev ylYy:Type 1:=List G_Band→Int→{R:Type}→(Int→Option R)→Option R
structure C_log_At where
 N:Nat
 z14z:ywNy
def ytty (g:C_log_At) (a1:List G_Band) (a2:Int) {R:Type} (k0:Int→Option R):Option R :=
 (g.z14z a1 a2 (fun r3 r4=>k0 r3))
noncomputable def yqhy [Fuel]:C_log_At:=⟨NN,@z14z _⟩
noncomputable def log_At [Fuel]:ylYy:=@ytty yqhy
def ygVy (g:ylYy):Spec A:=fun args=>match args with | [.d (.sl 62 a1),.d (.int .i64 a2)]=>fun k=>g a1 a2 (fun z0=>k (.d (.int .i64 z0)) [.undef,.undef]) | _=>fun _=>none
noncomputable def yMky:Code:=(Tryz.f43.body).getD .skip
noncomputable def yHGy (g:C_log_At):Env A:=mkE [(83,yoAy g.z14z)] [(3,[0])] [] [] [] [] [] [] [(83,0)] []
theorem yEpy (g:C_log_At):Same (ygVy (@ytty g)) (abody (yHGy g) Tryz.f43 yMky 1 [] [.asis] g.N):=by intro args; unfold ygVy; split; exact .inr fun R k=>(by kernel_rfl); exact .inl fun R k=>rfl
theorem ym3y [Fuel]:Ok 43 (ygVy (@log_At _)):=yaay std (.cons yJry .nil) ⟨rfl,rfl,by kernel_rfl,rfl,rfl,rfl⟩ (yEpy yqhy) (cuts0 (fun _=>rfl) (by kernel_rfl)) Tryz.func43 (by kernel_rfl) (by kernel_rfl)
abbrev yxpy:Type 1:=List G_Spot→{R:Type}→(List G_Spot→Option R)→Option R
def z51z_L1 (g:Nat):Nat→Int→Int→List G_Spot→{R:Type}→(List G_Spot→Option R)→Option R
 | 0,_,_,_,_,_=>none
 | n + 1,v2,v3,v4,_,e0=>(bif (decide (v2 < v3)) then (inr v4 v3 (at_ v4 v3 fun x9=>(inr v4 v2 (at_ v4 v2 fun x10=>(inr v4 v2 (at_ v4 v2 fun x11=>(inr (set_ v4 v2 x9) v3 (at_ (set_ v4 v2 x9) v3 fun x12=>z51z_L1 g n (w64 (v2 + 1)) (w64 (v3 - 1)) (set_ (set_ v4 v2 x9) v3 x10) e0)))))))) else e0 v4)
def z51z_ (g:Nat) (a1:List G_Spot) {R:Type} (k0:List G_Spot→Option R):Option R :=
 (z51z_L1 g g 0 (w64 ((a1.length:Int) - 1)) a1 (fun e13=>k0 e13))
noncomputable def z51z [Fuel]:yxpy:=@z51z_ NN
def yoCy (g:yxpy):Spec A:=fun args=>match args with | [.arr 42 a1]=>fun k=>g a1 (fun z0=>k (.tup []) [.arr 42 z0]) | _=>fun _=>none
def ykJy:SSt:=mkSh 28 1 [(0,.own 42 0),(2,.int .i64),(3,.int .i64)] [(0,.row 42)]
def yfdy (g:Nat) (n:Nat):LPT A:=fun ps=>match ps with | [.d (.int .i64 p1),.d (.int .i64 p2),.d (.sl 42 p3)]=>fun K=>z51z_L1 g n p1 p2 p3 (fun z0=>K (.exit 0) (mkSt 28 1 [(0,.own 42 0)] [(0,some (.row 42 z0))])) | _=>fun _=>none
noncomputable def yAvy:Code:=(Tryz.f77.body).getD .skip
noncomputable def ysBy (g:Nat):Env A:=mkE [] [] [(1,⟨[0,2,3],[],[0],[],[],[],[]⟩)] [(1,⟨[0],[],[0],[],[],[],[]⟩)] [(1,yafy ykJy (yfdy g g))] [] [] [] [] [0]
theorem yJQy [Fuel]:yahy (ysBy NN).C:=ct_of (P:=Tryz.prog) (T:=T) .nil (by kernel_rfl)
noncomputable def yrvy:Code:=sub [1,0,0] yAvy
theorem yDYy (g:Nat) (n:Nat):yaky (ysBy g) g yrvy ykJy (yfdy g) n:=by intro ps; unfold yfdy; split; exact .inr fun R K=>(by kernel_rfl); exact .inl fun R K=>rfl
theorem yCVy [Fuel]:yacy (ysBy NN) NN yrvy:=yaey ykJy (yfdy NN) (by kernel_rfl) yJQy (cuts0 (fun _=>rfl) (by kernel_rfl)) (fun ps R K=>by unfold yfdy; split <;> (try unfold z51z_L1) <;> rfl) (yDYy NN)
theorem yKYy (g:Nat):Same (yoCy (@z51z_ g)) (abody (ysBy g) Tryz.f77 yAvy 1 [0] [] g):=by intro args; unfold yoCy; split; exact .inr fun R k=>(by kernel_rfl); exact .inl fun R k=>rfl
theorem yBOy [Fuel]:Ok 77 (yoCy (@z51z _)):=yaay std .nil ⟨rfl,rfl,by kernel_rfl,rfl,rfl,rfl⟩ (yKYy NN) (cutsL (fun _=>rfl) (.cons yCVy .nil) (by kernel_rfl)) Tryz.func77 (by kernel_rfl) (by kernel_rfl)
abbrev ysjy:Type 1:=List Int→{R:Type}→(List Int→Option R)→Option R
def z48z_L1 (g:Nat):Nat→Int→Int→List Int→{R:Type}→(List Int→Option R)→Option R
 | 0,_,_,_,_,_=>none
 | n + 1,v2,v3,v4,_,e0=>(bif (decide (v2 < v3)) then (inr v4 v3 (at_ v4 v3 fun x9=>(inr v4 v2 (at_ v4 v2 fun x10=>(inr v4 v2 (at_ v4 v2 fun x11=>(inr (set_ v4 v2 x9) v3 (at_ (set_ v4 v2 x9) v3 fun x12=>z48z_L1 g n (w64 (v2 + 1)) (w64 (v3 - 1)) (set_ (set_ v4 v2 x9) v3 x10) e0)))))))) else e0 v4)
def z48z_ (g:Nat) (a1:List Int) {R:Type} (k0:List Int→Option R):Option R :=
 (z48z_L1 g g 0 (w64 ((a1.length:Int) - 1)) a1 (fun e13=>k0 e13))
noncomputable def z48z [Fuel]:ysjy:=@z48z_ NN
def yjQy (g:ysjy):Spec A:=fun args=>match args with | [.arr 3 a1]=>fun k=>g a1 (fun z0=>k (.tup []) [.arr 3 z0]) | _=>fun _=>none
def yl5y:SSt:=mkSh 28 1 [(0,.own 3 0),(2,.int .i64),(3,.int .i64)] [(0,.row 3)]
def yf4y (g:Nat) (n:Nat):LPT A:=fun ps=>match ps with | [.d (.int .i64 p1),.d (.int .i64 p2),.d (.sl 3 p3)]=>fun K=>z48z_L1 g n p1 p2 p3 (fun z0=>K (.exit 0) (mkSt 28 1 [(0,.own 3 0)] [(0,some (.row 3 z0))])) | _=>fun _=>none
noncomputable def yA2y:Code:=(Tryz.f78.body).getD .skip
noncomputable def yray (g:Nat):Env A:=mkE [] [] [(1,⟨[0,2,3],[],[0],[],[],[],[]⟩)] [(1,⟨[0],[],[0],[],[],[],[]⟩)] [(1,yafy yl5y (yf4y g g))] [] [] [] [] [0]
theorem yKVy [Fuel]:yahy (yray NN).C:=ct_of (P:=Tryz.prog) (T:=T) .nil (by kernel_rfl)
noncomputable def yr8y:Code:=sub [1,0,0] yA2y
theorem yEty (g:Nat) (n:Nat):yaky (yray g) g yr8y yl5y (yf4y g) n:=by intro ps; unfold yf4y; split; exact .inr fun R K=>(by kernel_rfl); exact .inl fun R K=>rfl
theorem yCUy [Fuel]:yacy (yray NN) NN yr8y:=yaey yl5y (yf4y NN) (by kernel_rfl) yKVy (cuts0 (fun _=>rfl) (by kernel_rfl)) (fun ps R K=>by unfold yf4y; split <;> (try unfold z48z_L1) <;> rfl) (yEty NN)
theorem yMOy (g:Nat):Same (yjQy (@z48z_ g)) (abody (yray g) Tryz.f78 yA2y 1 [0] [] g):=by intro args; unfold yjQy; split; exact .inr fun R k=>(by kernel_rfl); exact .inl fun R k=>rfl
theorem ynXy [Fuel]:Ok 78 (yjQy (@z48z _)):=yaay std .nil ⟨rfl,rfl,by kernel_rfl,rfl,rfl,rfl⟩ (yMOy NN) (cutsL (fun _=>rfl) (.cons yCUy .nil) (by kernel_rfl)) Tryz.func78 (by kernel_rfl) (by kernel_rfl)
abbrev ycJy:Type 1:=List G_Band→List G_Spot→Int→Int→{R:Type}→(List G_Spot→List Int→Option R)→Option R
structure C_band_heard where
 N:Nat
 log_At:ylYy
 z83z:yzhy
 z51z:yxpy
 z48z:ysjy
def yaJy (g:C_band_heard):Nat→List G_Spot→List G_Band→Int→Int→List (G_band_onBand×Bool)→List G_Spot→List Int→{R:Type}→(List G_Band→Int→Int→List (G_band_onBand×Bool)→List G_Spot→List Int→Option R)→Option R
 | 0,y0,y1,y2,y3,y4,y5,y6,_,e0=>e0 y1 y2 y3 y4 y5 y6
 | n + 1,l12,v6,v7,v8,v9,v10,v11,_,e0=>(match l12[n]? with | none=>none | some x13=>(g.log_At v6 x13.f_Hertz (fun r14=>(bif (decide (x13.f_At≤(w64 (v8 - v7)))) then yaJy g n l12 v6 v7 v8 v9 v10 v11 e0 else (bif (decide (x13.f_At > v8)) then yaJy g n l12 v6 v7 v8 v9 v10 v11 e0 else (bif (decide (r14 < 0)) then yaJy g n l12 v6 v7 v8 v9 v10 v11 e0 else (bif ((yany (⟨x13.f_Call,r14⟩:G_band_onBand) v9).getD false) then yaJy g n l12 v6 v7 v8 v9 v10 v11 e0 else (bif (decide ((v10.length + [x13].length) * 48≤yaly)) then (bif (decide ((v11.length + [r14].length) * 8≤yaly)) then yaJy g n l12 v6 v7 v8 (yaWy (⟨x13.f_Call,r14⟩:G_band_onBand) true v9) (v10 ++ [x13]) (v11 ++ [r14]) e0 else none) else none))))))))
noncomputable def yb7y (g:C_band_heard) (a1:List G_Band) (a2:List G_Spot) (a3 a4:Int) {R:Type} (k0:List G_Spot→List Int→Option R):Option R :=
 (g.z83z a2 (fun r5=>(bif decide (r5.length < 4611686018427387904) then (yaJy g r5.length r5 a1 a3 a4 [] [] [] (fun e15 e16 e17 e18 e19 e20=>(g.z51z e19 (fun r21=>(g.z48z e20 (fun r22=>k0 r21 r22)))))) else none)))
def ye1y (p:IV A×List (IV A)):Option ((List G_Spot)×(List Int)):=match p with | (.tup [.arr 42 b1,.arr 3 b2],[.undef,.undef,.undef,.undef])=>some (b1,b2) | _=>none
def ycoy (q:(List G_Spot)×(List Int)):IV A×List (IV A):=(.tup [.arr 42 q.1,.arr 3 q.2],[.undef,.undef,.undef,.undef])
theorem ys8y (p:IV A×List (IV A)) (q:(List G_Spot)×(List Int)) (h:ye1y p = some q):p = ycoy q:=by unfold ye1y at h; split at h; (cases h; rfl); cases h
noncomputable def ygLy (g:C_band_heard) (a1:List G_Band) (a2:List G_Spot) (a3 a4:Int) {R:Type} (k0:List G_Spot→List Int→Option R):Option R :=
 (yb7y g a1 a2 a3 a4 (fun z0 z1=>some (ycoy (z0,z1)))).bind fun p=>(decK ye1y p (fun q=>k0 q.1 q.2) none)
noncomputable def yavy [Fuel]:C_band_heard:=⟨NN,@log_At _,@z83z _,@z51z _,@z48z _⟩
noncomputable def band_heard [Fuel]:ycJy:=@ygLy yavy
def yaTy (g:ycJy):Spec A:=fun args=>match args with | [.d (.sl 62 a1),.d (.sl 42 a2),.d (.int .i64 a3),.d (.int .i64 a4)]=>fun k=>g a1 a2 a3 a4 (fun z0 z1=>k (.tup [.arr 42 z0,.arr 3 z1]) [.undef,.undef,.undef,.undef]) | _=>fun _=>none
def yc0y:SSt:=mkSh 65 16 [(4,.ptr 0 0),(6,.ptr 1 0),(7,.ptr 2 0),(8,.ptr 3 0),(9,.ptr 4 0),(10,.ptr 6 0)] [(0,.box [.sl 62]),(1,.box [.int .i64]),(2,.box [.int .i64]),(3,.box [.own 42 8]),(4,.box [.own 3 9]),(5,.mp 131 4),(6,.box [.mp 5]),(8,.row 42),(9,.row 3)]
abbrev ybhy:Bw:=⟨127,28,42,3,4⟩
def ybNy (g:C_band_heard) (n:Nat) (l:List (A (ybhy).tE)):LPT A:=fun ps=>match ps with | [.d (.sl 62 p1),.d (.int .i64 p2),.d (.int .i64 p3),.mp 131 4 p4,.d (.sl 42 p5),.d (.sl 3 p6)]=>fun K=>yaJy g n l p1 p2 p3 p4 p5 p6 (fun z0 z1 z2 z3 z4 z5=>K .normal (mkSt 65 16 [(4,.ptr 0 0),(6,.ptr 1 0),(7,.ptr 2 0),(8,.ptr 3 0),(9,.ptr 4 0),(10,.ptr 6 0)] [(0,some (.box [.d (.sl 62 z0)])),(1,some (.box [.d (.int .i64 z1)])),(2,some (.box [.d (.int .i64 z2)])),(3,some (.box [.own 42 8])),(4,some (.box [.own 3 9])),(5,some (.mp 131 4 z3)),(6,some (.box [.mp 5])),(8,some (.row 42 z4)),(9,some (.row 3 z5))])) | _=>fun _=>none
noncomputable def yBWy:Code:=(Tryz.f36.body).getD .skip
noncomputable def yeWy (g:C_band_heard):Env A:=mkE [(43,ygVy g.log_At),(76,yory g.z83z),(77,yoCy g.z51z),(78,yjQy g.z48z)] [(4,[0]),(6,[1]),(7,[2]),(8,[3]),(9,[4]),(10,[6]),(12,[10]),(13,[11]),(14,[5]),(16,[7]),(52,[12]),(53,[14]),(57,[13]),(58,[15])] [(4,⟨[4,6,7,8,9,10],[],[0,1,2,3,4,5,6],[(3,0,42,8),(4,0,3,9)],[],[],[]⟩)] [(4,⟨[4,6,7,8,9,10],[],[0,1,2,3,4,5,6],[],[],[],[]⟩)] [] [] [] [] [(77,0),(78,0)] []
noncomputable def ymcy (g:C_band_heard):Nat→Option (Nat→ybLy A (ybhy).tE):=fun i=>List.lookup i [(0,ywIy (ybhy).tE yc0y (ybNy g))]
def yhty:Nat→List Nat:=fun i=>(List.lookup i [(0,[4,6,7,8,9,10])]).getD []
theorem ct_band_heard [Fuel]:yahy (yeWy yavy).C:=ct_of (P:=Tryz.prog) (T:=T) (.cons ym3y (.cons yA4y (.cons yBOy (.cons ynXy .nil)))) (by kernel_rfl)
noncomputable def yo6y:BwP:=(bwP Tryz.f127.body).get (by kernel_rfl)
theorem ypay:BwFine Tryz.prog T ybhy:=⟨yBzy (fn:=Tryz.f127) Tryz.func127 yo6y (by kernel_rfl) (by kernel_rfl) (by kernel_rfl) (by kernel_rfl) (by kernel_rfl) (by kernel_rfl) (by kernel_rfl) (by kernel_rfl) (by kernel_rfl),yaOy (fn:=Tryz.f127) Tryz.func127 (by kernel_rfl) (by kernel_rfl),by kernel_rfl,by kernel_rfl,fun x=>by kernel_rfl⟩
noncomputable def yewy:RfP:=(rfOf (sub [1,1,0] yBWy)).get (by kernel_rfl)
theorem yrIy (g:C_band_heard):ytyy (ybhy).tE yc0y (ybNy g):=by intro xs ps; unfold ybNy; split; exact .inr fun R K=>(by kernel_rfl); exact .inl fun R K=>rfl
theorem yrXy (g:C_band_heard) (i:Nat):ytey (yeWy g) g.N (yhty (yewy).B) yewy (ybhy).tE yc0y (ybNy g) i:=by intro xs ps; unfold ybNy; split; exact .inr fun R K=>(by kernel_rfl); exact .inl fun R K=>rfl
theorem yqny [Fuel]:BOk (yeWy yavy) ybhy (ymcy yavy) yhty NN yewy:=ytYy yc0y (ybNy yavy) (by kernel_rfl) (cuts0 (fun _=>rfl) (by kernel_rfl)) (cuts0 (fun _=>rfl) (by kernel_rfl)) (yrIy yavy) (yrXy yavy)
theorem yvgy (g:C_band_heard):Same (yaTy (@yb7y g)) (ykjy (yeWy g) ybhy (ymcy g) yhty Tryz.f36 yBWy 16 [] [.arr 42,.arr 3] g.N):=by intro args; unfold yaTy; split; exact .inr fun R k=>(by kernel_rfl); exact .inl fun R k=>rfl
theorem yu8y (g:C_band_heard):Whole (yaTy (@ygLy g)) (yaTy (@yb7y g)):=by
 intro args R k res h
 unfold yaTy at h
 split at h
 ·obtain ⟨p,hp,h⟩:=Option.bind_eq_some_iff.1 h
  exact ⟨p,hp,(ytAy (inj:=ycoy) ys8y (fun h=>(by cases h)) h)⟩
 ·cases h
theorem yu1y (g:C_band_heard):yaDy (yaTy (@ygLy g)):=by
 intro args R k
 unfold yaTy
 split
 ·unfold ygLy
  rw [Option.bind_assoc]
  exact congrArg (Option.bind _) (funext fun p=>(ytdy (inj:=ycoy) rfl))
 ·rfl
theorem yb1y [Fuel]:Ok 36 (yaTy (@band_heard _)):=yEOy std (.cons ym3y (.cons yA4y (.cons yBOy (.cons ynXy .nil)))) ⟨rfl,rfl,by kernel_rfl,rfl,rfl,rfl⟩ ypay (yvgy yavy) (yu8y yavy) (yu1y yavy) (cutsB (fun _=>rfl) .nil (.cons yqny .nil) (by kernel_rfl) (by kernel_rfl)) Tryz.func36 (by kernel_rfl) (by kernel_rfl)
abbrev yiuy:Type 1:=List G_Band→List G_Spot→Int→Int→{R:Type}→(List G_Spot→Int→Option R)→Option R
structure C_band_Heard where
 N:Nat
 z57z:yjFy
 z56z:yjBy
 band_heard:ycJy
def yi2y (g:C_band_Heard) (a1:List G_Band) (a2:List G_Spot) (a3 a4:Int) {R:Type} (k0:List G_Spot→Int→Option R):Option R :=
 (g.z57z a1 a2 (fun r5=>(bif (r5 != 0) then k0 [] r5 else (g.z56z a3 a4 0 (fun r6=>(bif (r6 != 0) then k0 [] r6 else (g.band_heard a1 a2 a3 a4 (fun r7 r8=>k0 r7 0))))))))
noncomputable def yh2y [Fuel]:C_band_Heard:=⟨NN,@z57z _,@z56z _,@band_heard _⟩
noncomputable def band_Heard [Fuel]:yiuy:=@yi2y yh2y
def yeqy (g:yiuy):Spec A:=fun args=>match args with | [.d (.sl 62 a1),.d (.sl 42 a2),.d (.int .i64 a3),.d (.int .i64 a4)]=>fun k=>g a1 a2 a3 a4 (fun z0 z1=>k (.tup [.arr 42 z0,.d (.int .i64 z1)]) [.undef,.undef,.undef,.undef]) | _=>fun _=>none
noncomputable def yKuy:Code:=(Tryz.f17.body).getD .skip
noncomputable def yvRy (g:C_band_Heard):Env A:=mkE [(31,ygby g.z57z),(34,ygly g.z56z),(36,yaTy g.band_heard)] [(31,[0,1])] [] [] [] [] [] [] [] []
theorem yu7y (g:C_band_Heard):Same (yeqy (@yi2y g)) (abody (yvRy g) Tryz.f17 yKuy 2 [] [.arr 42,.asis] g.N):=by intro args; unfold yeqy; split; exact .inr fun R k=>(by kernel_rfl); exact .inl fun R k=>rfl
theorem ymjy [Fuel]:Ok 17 (yeqy (@band_Heard _)):=yaay std (.cons ygiy (.cons yf7y (.cons yb1y .nil))) ⟨rfl,rfl,by kernel_rfl,rfl,rfl,rfl⟩ (yu7y yh2y) (cuts0 (fun _=>rfl) (by kernel_rfl)) Tryz.func17 (by kernel_rfl) (by kernel_rfl)
abbrev yxYy:Type 1:={R:Type}→(Int→Option R)→Option R
def z64z_L4 (g:Nat):Nat→Int→Int→{R:Type}→Option R→Option R
 | 0,_,_,_,_=>none
 | n + 1,v1,v2,_,e0=>(bif (decide (v2 < v1)) then none else e0)
def z64z_ (g:Nat)  {R:Type} (k0:Int→Option R):Option R :=
 (z64z_L4 g g 0 0 (k0 0))
noncomputable def z64z [Fuel]:yxYy:=@z64z_ NN
def yoIy (g:yxYy):Spec A:=fun args=>match args with | [.d .nsl]=>fun k=>g (fun z0=>k (.d (.int .i64 z0)) [.undef]) | _=>fun _=>none
def ykNy:SSt:=mkSh 34 0 [(0,.nsl),(9,.nsl),(10,.int .i64),(11,.int .i64)] []
def yeXy (g:Nat) (n:Nat):LPT A:=fun ps=>match ps with | [.d (.int .i64 p1),.d (.int .i64 p2)]=>fun K=>z64z_L4 g n p1 p2 (K (.exit 0) (mkSt 34 0 [] [])) | _=>fun _=>none
noncomputable def yo1y:Code:=(Tryz.f32.body).getD .skip
noncomputable def yrCy (g:Nat):Env A:=mkE [] [] [(4,⟨[0,9,10,11],[],[],[],[],[],[]⟩)] [(4,⟨[],[],[],[],[],[],[]⟩)] [(4,yafy ykNy (yeXy g g))] [] [] [] [] []
theorem yMVy [Fuel]:yahy (yrCy NN).C:=ct_of (P:=Tryz.prog) (T:=T) .nil (by kernel_rfl)
noncomputable def yrKy:Code:=sub [1,1,0,1,0,0] yo1y
theorem yEby (g:Nat) (n:Nat):yaky (yrCy g) g yrKy ykNy (yeXy g) n:=by intro ps; unfold yeXy; split; exact .inr fun R K=>(by kernel_rfl); exact .inl fun R K=>rfl
theorem yCly [Fuel]:yacy (yrCy NN) NN yrKy:=yaey ykNy (yeXy NN) (by kernel_rfl) yMVy (cuts0 (fun _=>rfl) (by kernel_rfl)) (fun ps R K=>by unfold yeXy; split <;> (try unfold z64z_L4) <;> rfl) (yEby NN)
theorem yMfy (g:Nat):Same (yoIy (@z64z_ g)) (abody (yrCy g) Tryz.f32 yo1y 0 [] [.asis] g):=by intro args; unfold yoIy; split; exact .inr fun R k=>(by kernel_rfl); exact .inl fun R k=>rfl
theorem yAGy [Fuel]:Ok 32 (yoIy (@z64z _)):=yaay std .nil ⟨rfl,rfl,by kernel_rfl,rfl,rfl,rfl⟩ (yMfy NN) (cutsL (fun _=>rfl) (.cons yCly .nil) (by kernel_rfl)) Tryz.func32 (by kernel_rfl) (by kernel_rfl)
abbrev ycNy:Type 1:=Int→{R:Type}→(Bool→Option R)→Option R
structure C_kit_IsMode where
 N:Nat
 z45z:ycHy
def yjry (g:C_kit_IsMode) (a1:Int) {R:Type} (k0:Bool→Option R):Option R :=
 (g.z45z a1 1 3 (fun r2=>k0 (!r2)))
noncomputable def yh7y [Fuel]:C_kit_IsMode:=⟨NN,@z45z _⟩
noncomputable def kit_IsMode [Fuel]:ycNy:=@yjry yh7y
def yb0y (g:ycNy):Spec A:=fun args=>match args with | [.d (.int .i64 a1)]=>fun k=>g a1 (fun z0=>k (.d (.bool z0)) [.undef]) | _=>fun _=>none
noncomputable def yLSy:Code:=(Tryz.f33.body).getD .skip
noncomputable def yxuy (g:C_kit_IsMode):Env A:=mkE [(42,ybWy g.z45z)] [] [] [] [] [] [] [] [] []
theorem yvfy (g:C_kit_IsMode):Same (yb0y (@yjry g)) (abody (yxuy g) Tryz.f33 yLSy 0 [] [.asis] g.N):=by intro args; unfold yb0y; split; exact .inr fun R k=>(by kernel_rfl); exact .inl fun R k=>rfl
theorem ycjy [Fuel]:Ok 33 (yb0y (@kit_IsMode _)):=yaay std (.cons ybZy .nil) ⟨rfl,rfl,by kernel_rfl,rfl,rfl,rfl⟩ (yvfy yh7y) (cuts0 (fun _=>rfl) (by kernel_rfl)) Tryz.func33 (by kernel_rfl) (by kernel_rfl)
abbrev ysOy:Type 1:=List UInt8→{R:Type}→(List UInt8→Option R)→Option R
structure C_z85z where
 N:Nat
 call_Parts:yfAy
def z85z_ (g:C_z85z) (a1:List UInt8) {R:Type} (k0:List UInt8→Option R):Option R :=
 (g.call_Parts a1 (fun r2 r3=>k0 r2.f_Base))
noncomputable def yEey [Fuel]:C_z85z:=⟨NN,@call_Parts _⟩
noncomputable def z85z [Fuel]:ysOy:=@z85z_ yEey
def yjPy (g:ysOy):Spec A:=fun args=>match args with | [.d (.str a1)]=>fun k=>g a1 (fun z0=>k (.d (.str z0)) [.undef]) | _=>fun _=>none
noncomputable def yLoy:Code:=(Tryz.f35.body).getD .skip
noncomputable def yNjy (g:C_z85z):Env A:=mkE [(75,yc7y g.call_Parts)] [(3,[0])] [] [] [] [] [] [] [] []
theorem yI4y (g:C_z85z):Same (yjPy (@z85z_ g)) (abody (yNjy g) Tryz.f35 yLoy 1 [] [.asis] g.N):=by intro args; unfold yjPy; split; exact .inr fun R k=>(by kernel_rfl); exact .inl fun R k=>rfl
theorem ykry [Fuel]:Ok 35 (yjPy (@z85z _)):=yaay std (.cons ymqy .nil) ⟨rfl,rfl,by kernel_rfl,rfl,rfl,rfl⟩ (yI4y yEey) (cuts0 (fun _=>rfl) (by kernel_rfl)) Tryz.func35 (by kernel_rfl) (by kernel_rfl)
abbrev ytDy:Type 1:=G_Spot→Int→{R:Type}→(Int→Option R)→Option R
def z103z_ (g:Nat) (a1:G_Spot) (a2:Int) {R:Type} (k0:Int→Option R):Option R :=
 k0 (if (w64 (a2 - a1.f_Hertz)) > (w64 (a1.f_Hertz - a2)) then (w64 (a2 - a1.f_Hertz)) else (w64 (a1.f_Hertz - a2)))
noncomputable def z103z [Fuel]:ytDy:=@z103z_ NN
def ykLy (g:ytDy):Spec A:=fun args=>match args with | [.agg [.d (.int .i64 a1),.d (.int .i64 a2),.d (.str a3),.d (.str a4)],.cel [.int .i64 a5] 0]=>fun k=>g ⟨a1,a2,a3,a4⟩ a5 (fun z0=>k (.d (.int .i64 z0)) [.undef,.undef]) | _=>fun _=>none
noncomputable def yJAy:Code:=(Tryz.f37.body).getD .skip
noncomputable def yKzy (g:Nat):Env A:=mkE [] [(2,[0])] [] [] [] [] [] [] [] []
theorem yGKy (g:Nat):Same (ykLy (@z103z_ g)) (abody (yKzy g) Tryz.f37 yJAy 1 [] [.asis] g):=by intro args; unfold ykLy; split; exact .inr fun R k=>(by kernel_rfl); exact .inl fun R k=>rfl
theorem yG6y [Fuel]:Ok 37 (ykLy (@z103z _)):=yaay std .nil ⟨rfl,rfl,by kernel_rfl,rfl,rfl,rfl⟩ (yGKy NN) (cuts0 (fun _=>rfl) (by kernel_rfl)) Tryz.func37 (by kernel_rfl) (by kernel_rfl)
end Go.Am
