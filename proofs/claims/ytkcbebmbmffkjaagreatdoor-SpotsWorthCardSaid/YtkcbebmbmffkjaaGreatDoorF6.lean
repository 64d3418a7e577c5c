/- The functions of the program as Lean functions, each shown to be what the code computes, part 6. No condition: lemmas for the claim. -/
import Derived.Test.YtkcbebmbmffkjaaGreatDoorF0
import Derived.Test.YtkcbebmbmffkjaaGreatDoorFSh
import Derived.Test.YtkcbebmbmffkjaaGreatDoorF4
import Derived.Test.YtkcbebmbmffkjaaGreatDoorF5
set_option linter.unusedVariables false
set_option maxRecDepth 100000
namespace Go.Am
open Go Go.Proofs
abbrev yxVy:Type 1:=List G_Contact→{R:Type}→(Int→Option R)→Option R
structure C_z72z where
 N:Nat
 z94z:yxIy
 z111z:yuCy
def z72z_L4 (g:C_z72z):Nat→List G_Contact→List G_Contact→Int→Int→{R:Type}→(Int→Option R)→Option R→Option R
 | 0,_,_,_,_,_,_,_=>none
 | n + 1,v2,v3,v4,v5,_,e0,e1=>(bif (decide (v5 < v4)) then (get_ v3 v5 fun x10=>(g.z94z x10 (fun r11=>(bif (r11 != 0) then e0 r11 else (bif (decide (v5 > 0)) then (get_ v2 (w64 (v5 - 1)) fun x12=>(g.z111z x12 x10 (fun r13=>(bif (decide (r13 ≥ 0)) then e0 7 else z72z_L4 g n v2 v3 v4 (w64 (v5 + 1)) e0 e1)))) else z72z_L4 g n v2 v3 v4 (w64 (v5 + 1)) e0 e1))))) else e1)
def z72z_ (g:C_z72z) (a1:List G_Contact) {R:Type} (k0:Int→Option R):Option R :=
 (bif (decide ((a1.length:Int) > 2000)) then k0 2 else (z72z_L4 g g.N a1 a1 (a1.length:Int) 0 (fun e14=>k0 e14) (k0 0)))
noncomputable def yduy [Fuel]:C_z72z:=⟨NN,@z94z _,@z111z _⟩
noncomputable def z72z [Fuel]:yxVy:=@z72z_ yduy
def ypgy (g:yxVy):Spec A:=fun args=>match args with | [.d (.sl 77 a1)]=>fun k=>g a1 (fun z0=>k (.d (.int .i64 z0)) [.undef]) | _=>fun _=>none
def ylOy:SSt:=mkSh 34 1 [(0,.sl 77),(9,.sl 77),(10,.int .i64),(11,.int .i64)] []
def yfAy (g:C_z72z) (n:Nat):LPT A:=fun ps=>match ps with | [.d (.sl 77 p1),.d (.sl 77 p2),.d (.int .i64 p3),.d (.int .i64 p4)]=>fun K=>z72z_L4 g n p1 p2 p3 p4 (fun z0=>K .ret (mkSt 34 1 [(2,.d (.int .i64 z0))] [])) (K (.exit 0) (mkSt 34 1 [] [])) | _=>fun _=>none
noncomputable def yCmy:Code:=(Tryz.f48.body).getD .skip
noncomputable def ys6y (g:C_z72z):Env A:=mkE [(95,ypKy g.z94z),(96,yley g.z111z)] [(4,[0])] [(4,⟨[0,9,10,11],[],[],[],[],[],[]⟩)] [(4,⟨[2],[],[],[],[],[],[]⟩)] [(4,yaey ylOy (yfAy g g.N))] [] [] [] [] []
theorem yMly [Fuel]:yagy (ys6y yduy).C:=ct_of (P:=Tryz.prog) (T:=T) (.cons yBuy (.cons yxJy .nil)) (by kernel_rfl)
noncomputable def yrKy:Code:=sub [1,1,0,1,0,0] yCmy
theorem yGjy (g:C_z72z) (n:Nat):yahy (ys6y g) g.N yrKy ylOy (yfAy g) n:=by intro ps; unfold yfAy; split; exact .inr fun R K=>(by kernel_rfl); exact .inl fun R K=>rfl
theorem yEmy [Fuel]:yacy (ys6y yduy) NN yrKy:=yaby ylOy (yfAy yduy) (by kernel_rfl) yMly (cuts0 (fun _=>rfl) (by kernel_rfl)) (fun ps R K=>by unfold yfAy; split <;> (try unfold z72z_L4) <;> rfl) (yGjy yduy)
theorem yMGy (g:C_z72z):Same (ypgy (@z72z_ g)) (abody (ys6y g) Tryz.f48 yCmy 1 [] [.asis] g.N):=by intro args; unfold ypgy; split; exact .inr fun R k=>(by kernel_rfl); exact .inl fun R k=>rfl
theorem yB6y [Fuel]:Ok 48 (ypgy (@z72z _)):=yaay std (.cons yBuy (.cons yxJy .nil)) ⟨rfl,rfl,by kernel_rfl,rfl,rfl,rfl⟩ (yMGy yduy) (cutsL (fun _=>rfl) (.cons yEmy .nil) (by kernel_rfl)) Tryz.func48 (by kernel_rfl) (by kernel_rfl)
abbrev yr5y:Type 1:=Int→Int→Int→{R:Type}→(Int→Option R)→Option R
structure C_z87z where
 N:Nat
 z85z:ykpy
 z78z:yfsy
def z87z_ (g:C_z87z) (a1 a2 a3:Int) {R:Type} (k0:Int→Option R):Option R :=
 (g.z78z a1 1 86400000 (fun r4=>(bif r4 then k0 1 else (g.z85z a2 (fun r5=>(bif (!r5) then k0 1 else (g.z78z a3 0 30000000000 (fun r6=>(bif r6 then k0 1 else k0 0)))))))))
noncomputable def ywWy [Fuel]:C_z87z:=⟨NN,@z85z _,@z78z _⟩
noncomputable def z87z [Fuel]:yr5y:=@z87z_ ywWy
def yjOy (g:yr5y):Spec A:=fun args=>match args with | [.d (.int .i64 a1),.d (.int .i64 a2),.d (.int .i64 a3)]=>fun k=>g a1 a2 a3 (fun z0=>k (.d (.int .i64 z0)) [.undef,.undef,.undef]) | _=>fun _=>none
noncomputable def yMCy:Code:=(Tryz.f50.body).getD .skip
noncomputable def yP6y (g:C_z87z):Env A:=mkE [(85,ygly g.z85z),(86,ydsy g.z78z)] [] [] [] [] [] [] [] [] []
theorem yK1y (g:C_z87z):Same (yjOy (@z87z_ g)) (abody (yP6y g) Tryz.f50 yMCy 0 [] [.asis] g.N):=by intro args; unfold yjOy; split; exact .inr fun R k=>(by kernel_rfl); exact .inl fun R k=>rfl
theorem yowy [Fuel]:Ok 50 (yjOy (@z87z _)):=yaay std (.cons ykBy (.cons ydMy .nil)) ⟨rfl,rfl,by kernel_rfl,rfl,rfl,rfl⟩ (yK1y ywWy) (cuts0 (fun _=>rfl) (by kernel_rfl)) Tryz.func50 (by kernel_rfl) (by kernel_rfl)
abbrev yuHy:Type 1:=List UInt8→{R:Type}→(List UInt8→Option R)→Option R
structure C_z106z where
 N:Nat
 call_Parts:yfyy
def z106z_ (g:C_z106z) (a1:List UInt8) {R:Type} (k0:List UInt8→Option R):Option R :=
 (g.call_Parts a1 (fun r2 r3=>k0 r2.f_Base))
noncomputable def yB8y [Fuel]:C_z106z:=⟨NN,@call_Parts _⟩
noncomputable def z106z [Fuel]:yuHy:=@z106z_ yB8y
def ykIy (g:yuHy):Spec A:=fun args=>match args with | [.d (.str a1)]=>fun k=>g a1 (fun z0=>k (.d (.str z0)) [.undef]) | _=>fun _=>none
noncomputable def yLuy:Code:=(Tryz.f51.body).getD .skip
noncomputable def yLoy (g:C_z106z):Env A:=mkE [(97,ydcy g.call_Parts)] [(3,[0])] [] [] [] [] [] [] [] []
theorem yIyy (g:C_z106z):Same (ykIy (@z106z_ g)) (abody (yLoy g) Tryz.f51 yLuy 1 [] [.asis] g.N):=by intro args; unfold ykIy; split; exact .inr fun R k=>(by kernel_rfl); exact .inl fun R k=>rfl
theorem yqYy [Fuel]:Ok 51 (ykIy (@z106z _)):=yaay std (.cons ymOy .nil) ⟨rfl,rfl,by kernel_rfl,rfl,rfl,rfl⟩ (yIyy yB8y) (cuts0 (fun _=>rfl) (by kernel_rfl)) Tryz.func51 (by kernel_rfl) (by kernel_rfl)
abbrev yw9y:Type 1:=List G_Spot→{R:Type}→(List G_Spot→Option R)→Option R
def z99z_ (g:Nat) (a1:List G_Spot) {R:Type} (k0:List G_Spot→Option R):Option R :=
 k0 a1
noncomputable def z99z [Fuel]:yw9y:=@z99z_ NN
def yoGy (g:yw9y):Spec A:=fun args=>match args with | [.d (.sl 52 a1)]=>fun k=>g a1 (fun z0=>k (.fn 141 [.box [.d (.sl 52 z0)]]) [.undef]) | _=>fun _=>none
noncomputable def yMUy:Code:=(Tryz.f98.body).getD .skip
noncomputable def yP7y (g:Nat):Env A:=mkE [] [(1,[0])] [] [] [] [] [] [] [] []
theorem yL6y (g:Nat):Same (yoGy (@z99z_ g)) (abody (yP7y g) Tryz.f98 yMUy 1 [] [.asis] g):=by intro args; unfold yoGy; split; exact .inr fun R k=>(by kernel_rfl); exact .inl fun R k=>rfl
theorem yCuy [Fuel]:Ok 98 (yoGy (@z99z _)):=yaay std .nil ⟨rfl,rfl,by kernel_rfl,rfl,rfl,rfl⟩ (yL6y NN) (cuts0 (fun _=>rfl) (by kernel_rfl)) Tryz.func98 (by kernel_rfl) (by kernel_rfl)
abbrev ymay:Type 1:=G_Band→Int→{R:Type}→(Bool→Int→Option R)→Option R
def ynty (g:Nat) (a1:G_Band) (a2:Int) {R:Type} (k0:Bool→Int→Option R):Option R :=
 (bif (decide (a1.f_Low≤a2)) then k0 (decide (a2 < a1.f_High)) a2 else k0 false a2)
noncomputable def log_At_1 [Fuel]:ymay:=@ynty NN
def ygMy (g:ymay):Spec A:=fun args=>match args with | [.agg [.d (.str a1),.d (.int .i64 a2),.d (.int .i64 a3)],.box [.d (.int .i64 a4)]]=>fun k=>g ⟨a1,a2,a3⟩ a4 (fun z0 z1=>k (.d (.bool z0)) [.undef,.box [.d (.int .i64 z1)]]) | _=>fun _=>none
noncomputable def yIRy:Code:=(Tryz.f142.body).getD .skip
noncomputable def yEqy (g:Nat):Env A:=mkE [] [(2,[1])] [] [] [] [] [] [] [] [1]
theorem yBcy (g:Nat):Same (ygMy (@ynty g)) (abody (yEqy g) Tryz.f142 yIRy 2 [0] [.asis] g):=by intro args; unfold ygMy; split; exact .inr fun R k=>(by kernel_rfl); exact .inl fun R k=>rfl
theorem yqey [Fuel]:Ok 142 (ygMy (@log_At_1 _)):=yaay std .nil ⟨rfl,rfl,by kernel_rfl,rfl,rfl,rfl⟩ (yBcy NN) (cuts0 (fun _=>rfl) (by kernel_rfl)) Tryz.func142 (by kernel_rfl) (by kernel_rfl)
abbrev yziy:Type 1:=List G_Band→Int→{R:Type}→(Int→Int→Option R)→Option R
structure C_z33z where
 N:Nat
 log_At_1:ymay
def z33z_L2 (g:C_z33z):Nat→List G_Band→Int→Int→Int→{R:Type}→(Int→Int→Option R)→(Int→Option R)→Option R
 | 0,_,_,_,_,_,_,_=>none
 | n + 1,v3,v4,v5,v6,_,e0,e1=>(bif (decide (v5 < v4)) then (get_ v3 v5 fun x10=>(g.log_At_1 x10 v6 (fun r11 r12=>(bif r11 then e0 v5 r12 else z33z_L2 g n v3 v4 (w64 (v5 + 1)) r12 e0 e1)))) else e1 v6)
def z33z_ (g:C_z33z) (a1:List G_Band) (a2:Int) {R:Type} (k0:Int→Int→Option R):Option R :=
 (z33z_L2 g g.N a1 (a1.length:Int) 0 a2 (fun e13 e14=>k0 e13 e14) (fun e15=>k0 (-1) e15))
noncomputable def yiEy [Fuel]:C_z33z:=⟨NN,@log_At_1 _⟩
noncomputable def z33z [Fuel]:yziy:=@z33z_ yiEy
def yopy (g:yziy):Spec A:=fun args=>match args with | [.d (.sl 69 a1),.fn 142 [.box [.d (.int .i64 a2)]]]=>fun k=>g a1 a2 (fun z0 z1=>k (.d (.int .i64 z0)) [.undef,.fn 142 [.box [.d (.int .i64 z1)]]]) | _=>fun _=>none
def ylUy:SSt:=mkSh 19 1 [(0,.sl 69),(1,.fn 142 [.ptr 0 0]),(7,.int .i64),(8,.int .i64)] [(0,.box [.int .i64])]
def ye3y (g:C_z33z) (n:Nat):LPT A:=fun ps=>match ps with | [.d (.sl 69 p1),.d (.int .i64 p2),.d (.int .i64 p3),.d (.int .i64 p4)]=>fun K=>z33z_L2 g n p1 p2 p3 p4 (fun z0 z1=>K .ret (mkSt 19 1 [(1,.fn 142 [.ptr 0 0]),(4,.d (.int .i64 z0))] [(0,some (.box [.d (.int .i64 z1)]))])) (fun z0=>K (.exit 0) (mkSt 19 1 [(1,.fn 142 [.ptr 0 0])] [(0,some (.box [.d (.int .i64 z0)]))])) | _=>fun _=>none
noncomputable def yr9y (g:C_z33z):Env A:=mkE [(142,ygMy g.log_At_1)] [] [(2,⟨[0,1,7,8],[],[0],[],[],[],[]⟩)] [(2,⟨[1,4],[],[0],[],[],[],[]⟩)] [(2,yaey ylUy (ye3y g g.N))] [] [] [] [] [1]
theorem yJXy [Fuel]:yagy (yr9y yiEy).C:=ct_of (P:=Tryz.prog) (T:=T) (.cons yqey .nil) (by kernel_rfl)
noncomputable def ysQy:Code:=sub [1,0,1,0,0] ygzy
theorem yGfy (g:C_z33z) (n:Nat):yahy (yr9y g) g.N ysQy ylUy (ye3y g) n:=by intro ps; unfold ye3y; split; exact .inr fun R K=>(by kernel_rfl); exact .inl fun R K=>rfl
theorem yDCy [Fuel]:yacy (yr9y yiEy) NN ysQy:=yaby ylUy (ye3y yiEy) (by kernel_rfl) yJXy (cuts0 (fun _=>rfl) (by kernel_rfl)) (fun ps R K=>by unfold ye3y; split <;> (try unfold z33z_L2) <;> rfl) (yGfy yiEy)
theorem yKoy (g:C_z33z):Same (yopy (@z33z_ g)) (abody (yr9y g) Tryz.f107 ygzy 1 [0] [.asis] g.N):=by intro args; unfold yopy; split; exact .inr fun R k=>(by kernel_rfl); exact .inl fun R k=>rfl
theorem yNDy [Fuel]:Ok 107 (yopy (@z33z _)):=yaay std (.cons yqey .nil) ⟨rfl,rfl,by kernel_rfl,rfl,rfl,rfl⟩ (yKoy yiEy) (cutsL (fun _=>rfl) (.cons yDCy .nil) (by kernel_rfl)) Tryz.func107 (by kernel_rfl) (by kernel_rfl)
abbrev yq4y:Type 1:=List G_Band→Int→{R:Type}→(Int→Option R)→Option R
structure C_log_At where
 N:Nat
 z33z:yziy
def yumy (g:C_log_At) (a1:List G_Band) (a2:Int) {R:Type} (k0:Int→Option R):Option R :=
 (g.z33z a1 a2 (fun r3 r4=>k0 r3))
noncomputable def yqZy [Fuel]:C_log_At:=⟨NN,@z33z _⟩
noncomputable def log_At [Fuel]:yq4y:=@yumy yqZy
def yiYy (g:yq4y):Spec A:=fun args=>match args with | [.d (.sl 69 a1),.d (.int .i64 a2)]=>fun k=>g a1 a2 (fun z0=>k (.d (.int .i64 z0)) [.undef,.undef]) | _=>fun _=>none
noncomputable def yL9y:Code:=(Tryz.f99.body).getD .skip
noncomputable def yIoy (g:C_log_At):Env A:=mkE [(107,yopy g.z33z)] [(3,[0])] [] [] [] [] [] [] [(107,0)] []
theorem yEIy (g:C_log_At):Same (yiYy (@yumy g)) (abody (yIoy g) Tryz.f99 yL9y 1 [] [.asis] g.N):=by intro args; unfold yiYy; split; exact .inr fun R k=>(by kernel_rfl); exact .inl fun R k=>rfl
theorem yuUy [Fuel]:Ok 99 (yiYy (@log_At _)):=yaay std (.cons yNDy .nil) ⟨rfl,rfl,by kernel_rfl,rfl,rfl,rfl⟩ (yEIy yqZy) (cuts0 (fun _=>rfl) (by kernel_rfl)) Tryz.func99 (by kernel_rfl) (by kernel_rfl)
abbrev yzey:Type 1:=List G_Spot→{R:Type}→(List G_Spot→Option R)→Option R
def z66z_L1 (g:Nat):Nat→Int→Int→List G_Spot→{R:Type}→(List G_Spot→Option R)→Option R
 | 0,_,_,_,_,_=>none
 | n + 1,v2,v3,v4,_,e0=>(bif (decide (v2 < v3)) then (inr v4 v3 (at_ v4 v3 fun x9=>(inr v4 v2 (at_ v4 v2 fun x10=>(inr v4 v2 (at_ v4 v2 fun x11=>(inr (set_ v4 v2 x9) v3 (at_ (set_ v4 v2 x9) v3 fun x12=>z66z_L1 g n (w64 (v2 + 1)) (w64 (v3 - 1)) (set_ (set_ v4 v2 x9) v3 x10) e0)))))))) else e0 v4)
def z66z_ (g:Nat) (a1:List G_Spot) {R:Type} (k0:List G_Spot→Option R):Option R :=
 (z66z_L1 g g 0 (w64 ((a1.length:Int) - 1)) a1 (fun e13=>k0 e13))
noncomputable def z66z [Fuel]:yzey:=@z66z_ NN
def yoHy (g:yzey):Spec A:=fun args=>match args with | [.arr 52 a1]=>fun k=>g a1 (fun z0=>k (.tup []) [.arr 52 z0]) | _=>fun _=>none
def ymgy:SSt:=mkSh 28 1 [(0,.own 52 0),(2,.int .i64),(3,.int .i64)] [(0,.row 52)]
def yfly (g:Nat) (n:Nat):LPT A:=fun ps=>match ps with | [.d (.int .i64 p1),.d (.int .i64 p2),.d (.sl 52 p3)]=>fun K=>z66z_L1 g n p1 p2 p3 (fun z0=>K (.exit 0) (mkSt 28 1 [(0,.own 52 0)] [(0,some (.row 52 z0))])) | _=>fun _=>none
noncomputable def yyky:Code:=(Tryz.f100.body).getD .skip
noncomputable def ys1y (g:Nat):Env A:=mkE [] [] [(1,⟨[0,2,3],[],[0],[],[],[],[]⟩)] [(1,⟨[0],[],[0],[],[],[],[]⟩)] [(1,yaey ymgy (yfly g g))] [] [] [] [] [0]
theorem yN6y [Fuel]:yagy (ys1y NN).C:=ct_of (P:=Tryz.prog) (T:=T) .nil (by kernel_rfl)
noncomputable def yrGy:Code:=sub [1,0,0] yyky
theorem yGdy (g:Nat) (n:Nat):yahy (ys1y g) g yrGy ymgy (yfly g) n:=by intro ps; unfold yfly; split; exact .inr fun R K=>(by kernel_rfl); exact .inl fun R K=>rfl
theorem yEly [Fuel]:yacy (ys1y NN) NN yrGy:=yaby ymgy (yfly NN) (by kernel_rfl) yN6y (cuts0 (fun _=>rfl) (by kernel_rfl)) (fun ps R K=>by unfold yfly; split <;> (try unfold z66z_L1) <;> rfl) (yGdy NN)
theorem yJ2y (g:Nat):Same (yoHy (@z66z_ g)) (abody (ys1y g) Tryz.f100 yyky 1 [0] [] g):=by intro args; unfold yoHy; split; exact .inr fun R k=>(by kernel_rfl); exact .inl fun R k=>rfl
theorem yC3y [Fuel]:Ok 100 (yoHy (@z66z _)):=yaay std .nil ⟨rfl,rfl,by kernel_rfl,rfl,rfl,rfl⟩ (yJ2y NN) (cutsL (fun _=>rfl) (.cons yEly .nil) (by kernel_rfl)) Tryz.func100 (by kernel_rfl) (by kernel_rfl)
abbrev yz5y:Type 1:=List Int→{R:Type}→(List Int→Option R)→Option R
def z70z_L1 (g:Nat):Nat→Int→Int→List Int→{R:Type}→(List Int→Option R)→Option R
 | 0,_,_,_,_,_=>none
 | n + 1,v2,v3,v4,_,e0=>(bif (decide (v2 < v3)) then (inr v4 v3 (at_ v4 v3 fun x9=>(inr v4 v2 (at_ v4 v2 fun x10=>(inr v4 v2 (at_ v4 v2 fun x11=>(inr (set_ v4 v2 x9) v3 (at_ (set_ v4 v2 x9) v3 fun x12=>z70z_L1 g n (w64 (v2 + 1)) (w64 (v3 - 1)) (set_ (set_ v4 v2 x9) v3 x10) e0)))))))) else e0 v4)
def z70z_ (g:Nat) (a1:List Int) {R:Type} (k0:List Int→Option R):Option R :=
 (z70z_L1 g g 0 (w64 ((a1.length:Int) - 1)) a1 (fun e13=>k0 e13))
noncomputable def z70z [Fuel]:yz5y:=@z70z_ NN
def ypyy (g:yz5y):Spec A:=fun args=>match args with | [.arr 3 a1]=>fun k=>g a1 (fun z0=>k (.tup []) [.arr 3 z0]) | _=>fun _=>none
def ylvy:SSt:=mkSh 28 1 [(0,.own 3 0),(2,.int .i64),(3,.int .i64)] [(0,.row 3)]
def yeLy (g:Nat) (n:Nat):LPT A:=fun ps=>match ps with | [.d (.int .i64 p1),.d (.int .i64 p2),.d (.sl 3 p3)]=>fun K=>z70z_L1 g n p1 p2 p3 (fun z0=>K (.exit 0) (mkSt 28 1 [(0,.own 3 0)] [(0,some (.row 3 z0))])) | _=>fun _=>none
noncomputable def yxHy:Code:=(Tryz.f101.body).getD .skip
noncomputable def ysHy (g:Nat):Env A:=mkE [] [] [(1,⟨[0,2,3],[],[0],[],[],[],[]⟩)] [(1,⟨[0],[],[0],[],[],[],[]⟩)] [(1,yaey ylvy (yeLy g g))] [] [] [] [] [0]
theorem yKgy [Fuel]:yagy (ysHy NN).C:=ct_of (P:=Tryz.prog) (T:=T) .nil (by kernel_rfl)
noncomputable def ysPy:Code:=sub [1,0,0] yxHy
theorem yGty (g:Nat) (n:Nat):yahy (ysHy g) g ysPy ylvy (yeLy g) n:=by intro ps; unfold yeLy; split; exact .inr fun R K=>(by kernel_rfl); exact .inl fun R K=>rfl
theorem yDFy [Fuel]:yacy (ysHy NN) NN ysPy:=yaby ylvy (yeLy NN) (by kernel_rfl) yKgy (cuts0 (fun _=>rfl) (by kernel_rfl)) (fun ps R K=>by unfold yeLy; split <;> (try unfold z70z_L1) <;> rfl) (yGty NN)
theorem yNny (g:Nat):Same (ypyy (@z70z_ g)) (abody (ysHy g) Tryz.f101 yxHy 1 [0] [] g):=by intro args; unfold ypyy; split; exact .inr fun R k=>(by kernel_rfl); exact .inl fun R k=>rfl
theorem yCyy [Fuel]:Ok 101 (ypyy (@z70z _)):=yaay std .nil ⟨rfl,rfl,by kernel_rfl,rfl,rfl,rfl⟩ (yNny NN) (cutsL (fun _=>rfl) (.cons yDFy .nil) (by kernel_rfl)) Tryz.func101 (by kernel_rfl) (by kernel_rfl)
abbrev yeVy:Type 1:=List G_Band→List G_Spot→Int→Int→{R:Type}→(List G_Spot→List Int→Option R)→Option R
structure C_band_heard where
 N:Nat
 z99z:yw9y
 log_At:yq4y
 z66z:yzey
 z70z:yz5y
def yaGy (g:C_band_heard):Nat→List G_Spot→List G_Band→Int→Int→List (G_band_onBand×Bool)→List G_Spot→List Int→{R:Type}→(List G_Band→Int→Int→List (G_band_onBand×Bool)→List G_Spot→List Int→Option R)→Option R
 | 0,y0,y1,y2,y3,y4,y5,y6,_,e0=>e0 y1 y2 y3 y4 y5 y6
 | n + 1,l12,v6,v7,v8,v9,v10,v11,_,e0=>(match l12[n]? with | none=>none | some x13=>(g.log_At v6 x13.f_Hertz (fun r14=>(bif (decide (x13.f_At≤(w64 (v8 - v7)))) then yaGy g n l12 v6 v7 v8 v9 v10 v11 e0 else (bif (decide (x13.f_At > v8)) then yaGy g n l12 v6 v7 v8 v9 v10 v11 e0 else (bif (decide (r14 < 0)) then yaGy g n l12 v6 v7 v8 v9 v10 v11 e0 else (bif ((yany (⟨x13.f_Call,r14⟩:G_band_onBand) v9).getD false) then yaGy g n l12 v6 v7 v8 v9 v10 v11 e0 else (bif (decide ((v10.length + [x13].length) * 48≤yazy)) then (bif (decide ((v11.length + [r14].length) * 8≤yazy)) then yaGy g n l12 v6 v7 v8 (yaTy (⟨x13.f_Call,r14⟩:G_band_onBand) true v9) (v10 ++ [x13]) (v11 ++ [r14]) e0 else none) else none))))))))
noncomputable def yb3y (g:C_band_heard) (a1:List G_Band) (a2:List G_Spot) (a3 a4:Int) {R:Type} (k0:List G_Spot→List Int→Option R):Option R :=
 (g.z99z a2 (fun r5=>(bif decide (r5.length < 4611686018427387904) then (yaGy g r5.length r5 a1 a3 a4 [] [] [] (fun e15 e16 e17 e18 e19 e20=>(g.z66z e19 (fun r21=>(g.z70z e20 (fun r22=>k0 r21 r22)))))) else none)))
def ye4y (p:IV A×List (IV A)):Option ((List G_Spot)×(List Int)):=match p with | (.tup [.arr 52 b1,.arr 3 b2],[.undef,.undef,.undef,.undef])=>some (b1,b2) | _=>none
def ycmy (q:(List G_Spot)×(List Int)):IV A×List (IV A):=(.tup [.arr 52 q.1,.arr 3 q.2],[.undef,.undef,.undef,.undef])
theorem yuGy (p:IV A×List (IV A)) (q:(List G_Spot)×(List Int)) (h:ye4y p = some q):p = ycmy q:=by unfold ye4y at h; split at h; (cases h; rfl); cases h
noncomputable def ygJy (g:C_band_heard) (a1:List G_Band) (a2:List G_Spot) (a3 a4:Int) {R:Type} (k0:List G_Spot→List Int→Option R):Option R :=
 (yb3y g a1 a2 a3 a4 (fun z0 z1=>some (ycmy (z0,z1)))).bind fun p=>(decK ye4y p (fun q=>k0 q.1 q.2) none)
noncomputable def yauy [Fuel]:C_band_heard:=⟨NN,@z99z _,@log_At _,@z66z _,@z70z _⟩
noncomputable def band_heard [Fuel]:yeVy:=@ygJy yauy
def ybdy (g:yeVy):Spec A:=fun args=>match args with | [.d (.sl 69 a1),.d (.sl 52 a2),.d (.int .i64 a3),.d (.int .i64 a4)]=>fun k=>g a1 a2 a3 a4 (fun z0 z1=>k (.tup [.arr 52 z0,.arr 3 z1]) [.undef,.undef,.undef,.undef]) | _=>fun _=>none
def yc1y:SSt:=mkSh 65 16 [(4,.ptr 0 0),(6,.ptr 1 0),(7,.ptr 2 0),(8,.ptr 3 0),(9,.ptr 4 0),(10,.ptr 6 0)] [(0,.box [.sl 69]),(1,.box [.int .i64]),(2,.box [.int .i64]),(3,.box [.own 52 8]),(4,.box [.own 3 9]),(5,.mp 135 4),(6,.box [.mp 5]),(8,.row 52),(9,.row 3)]
abbrev ybcy:Bw:=⟨141,28,52,3,4⟩
def ybEy (g:C_band_heard) (n:Nat) (l:List (A (ybcy).tE)):LPT A:=fun ps=>match ps with | [.d (.sl 69 p1),.d (.int .i64 p2),.d (.int .i64 p3),.mp 135 4 p4,.d (.sl 52 p5),.d (.sl 3 p6)]=>fun K=>yaGy g n l p1 p2 p3 p4 p5 p6 (fun z0 z1 z2 z3 z4 z5=>K .normal (mkSt 65 16 [(4,.ptr 0 0),(6,.ptr 1 0),(7,.ptr 2 0),(8,.ptr 3 0),(9,.ptr 4 0),(10,.ptr 6 0)] [(0,some (.box [.d (.sl 69 z0)])),(1,some (.box [.d (.int .i64 z1)])),(2,some (.box [.d (.int .i64 z2)])),(3,some (.box [.own 52 8])),(4,some (.box [.own 3 9])),(5,some (.mp 135 4 z3)),(6,some (.box [.mp 5])),(8,some (.row 52 z4)),(9,some (.row 3 z5))])) | _=>fun _=>none
noncomputable def yCry:Code:=(Tryz.f52.body).getD .skip
noncomputable def yfpy (g:C_band_heard):Env A:=mkE [(98,yoGy g.z99z),(99,yiYy g.log_At),(100,yoHy g.z66z),(101,ypyy g.z70z)] [(4,[0]),(6,[1]),(7,[2]),(8,[3]),(9,[4]),(10,[6]),(12,[10]),(13,[11]),(14,[5]),(16,[7]),(52,[12]),(53,[14]),(57,[13]),(58,[15])] [(4,⟨[4,6,7,8,9,10],[],[0,1,2,3,4,5,6],[(3,0,52,8),(4,0,3,9)],[],[],[]⟩)] [(4,⟨[4,6,7,8,9,10],[],[0,1,2,3,4,5,6],[],[],[],[]⟩)] [] [] [] [] [(100,0),(101,0)] []
noncomputable def ymHy (g:C_band_heard):Nat→Option (Nat→ybNy A (ybcy).tE):=fun i=>List.lookup i [(0,yGYy (ybcy).tE yc1y (ybEy g))]
def yhAy:Nat→List Nat:=fun i=>(List.lookup i [(0,[4,6,7,8,9,10])]).getD []
theorem ct_band_heard [Fuel]:yagy (yfpy yauy).C:=ct_of (P:=Tryz.prog) (T:=T) (.cons yCuy (.cons yuUy (.cons yC3y (.cons yCyy .nil)))) (by kernel_rfl)
noncomputable def ypUy:BwP:=(bwP Tryz.f141.body).get (by kernel_rfl)
theorem ypWy:BwFine Tryz.prog T ybcy:=⟨yNBy (fn:=Tryz.f141) Tryz.func141 ypUy (by kernel_rfl) (by kernel_rfl) (by kernel_rfl) (by kernel_rfl) (by kernel_rfl) (by kernel_rfl) (by kernel_rfl) (by kernel_rfl) (by kernel_rfl),ybMy (fn:=Tryz.f141) Tryz.func141 (by kernel_rfl) (by kernel_rfl),by kernel_rfl,by kernel_rfl,fun x=>by kernel_rfl⟩
noncomputable def yezy:RfP:=(rfOf (sub [1,1,0] yCry)).get (by kernel_rfl)
theorem ytCy (g:C_band_heard):yBFy (ybcy).tE yc1y (ybEy g):=by intro xs ps; unfold ybEy; split; exact .inr fun R K=>(by kernel_rfl); exact .inl fun R K=>rfl
theorem yrBy (g:C_band_heard) (i:Nat):yCiy (yfpy g) g.N (yhAy (yezy).B) yezy (ybcy).tE yc1y (ybEy g) i:=by intro xs ps; unfold ybEy; split; exact .inr fun R K=>(by kernel_rfl); exact .inl fun R K=>rfl
theorem yrfy [Fuel]:BOk (yfpy yauy) ybcy (ymHy yauy) yhAy NN yezy:=yEYy yc1y (ybEy yauy) (by kernel_rfl) (cuts0 (fun _=>rfl) (by kernel_rfl)) (cuts0 (fun _=>rfl) (by kernel_rfl)) (ytCy yauy) (yrBy yauy)
theorem ywvy (g:C_band_heard):Same (ybdy (@yb3y g)) (yndy (yfpy g) ybcy (ymHy g) yhAy Tryz.f52 yCry 16 [] [.arr 52,.arr 3] g.N):=by intro args; unfold ybdy; split; exact .inr fun R k=>(by kernel_rfl); exact .inl fun R k=>rfl
theorem ywzy (g:C_band_heard):Whole (ybdy (@ygJy g)) (ybdy (@yb3y g)):=by
 intro args R k res h
 unfold ybdy at h
 split at h
 ·obtain ⟨p,hp,h⟩:=Option.bind_eq_some_iff.1 h
  exact ⟨p,hp,(yLky (inj:=ycmy) yuGy (fun h=>(by cases h)) h)⟩
 ·cases h
theorem ywfy (g:C_band_heard):yaUy (ybdy (@ygJy g)):=by
 intro args R k
 unfold ybdy
 split
 ·unfold ygJy
  rw [Option.bind_assoc]
  exact congrArg (Option.bind _) (funext fun p=>(yM9y (inj:=ycmy) rfl))
 ·rfl
theorem yepy [Fuel]:Ok 52 (ybdy (@band_heard _)):=yO3y std (.cons yCuy (.cons yuUy (.cons yC3y (.cons yCyy .nil)))) ⟨rfl,rfl,by kernel_rfl,rfl,rfl,rfl⟩ ypWy (ywvy yauy) (ywzy yauy) (ywfy yauy) (cutsB (fun _=>rfl) .nil (.cons yrfy .nil) (by kernel_rfl) (by kernel_rfl)) Tryz.func52 (by kernel_rfl) (by kernel_rfl)
abbrev yuhy:Type 1:=G_Spot→Int→{R:Type}→(Int→Option R)→Option R
def z115z_ (g:Nat) (a1:G_Spot) (a2:Int) {R:Type} (k0:Int→Option R):Option R :=
 k0 (if (w64 (a2 - a1.f_Hertz)) > (w64 (a1.f_Hertz - a2)) then (w64 (a2 - a1.f_Hertz)) else (w64 (a1.f_Hertz - a2)))
noncomputable def z115z [Fuel]:yuhy:=@z115z_ NN
def yldy (g:yuhy):Spec A:=fun args=>match args with | [.agg [.d (.int .i64 a1),.d (.int .i64 a2),.d (.str a3),.d (.str a4)],.cel [.int .i64 a5] 0]=>fun k=>g ⟨a1,a2,a3,a4⟩ a5 (fun z0=>k (.d (.int .i64 z0)) [.undef,.undef]) | _=>fun _=>none
noncomputable def yMxy:Code:=(Tryz.f53.body).getD .skip
noncomputable def yNNy (g:Nat):Env A:=mkE [] [(2,[0])] [] [] [] [] [] [] [] []
theorem yHQy (g:Nat):Same (yldy (@z115z_ g)) (abody (yNNy g) Tryz.f53 yMxy 1 [] [.asis] g):=by intro args; unfold yldy; split; exact .inr fun R k=>(by kernel_rfl); exact .inl fun R k=>rfl
theorem yHVy [Fuel]:Ok 53 (yldy (@z115z _)):=yaay std .nil ⟨rfl,rfl,by kernel_rfl,rfl,rfl,rfl⟩ (yHQy NN) (cuts0 (fun _=>rfl) (by kernel_rfl)) Tryz.func53 (by kernel_rfl) (by kernel_rfl)
abbrev yzWy:Type 1:=G_Spot→G_Spot→Int→{R:Type}→(Int→Int→Option R)→Option R
structure C_z74z where
 N:Nat
 z115z:yuhy
def z74z_ (g:C_z74z) (a1 a2:G_Spot) (a3:Int) {R:Type} (k0:Int→Int→Option R):Option R :=
 (g.z115z a1 a3 (fun r4=>(g.z115z a2 a3 (fun r5=>k0 (w64 (r4 - r5)) a3))))
noncomputable def yELy [Fuel]:C_z74z:=⟨NN,@z115z _⟩
noncomputable def z74z [Fuel]:yzWy:=@z74z_ yELy
def ypfy (g:yzWy):Spec A:=fun args=>match args with | [.agg [.d (.int .i64 a1),.d (.int .i64 a2),.d (.str a3),.d (.str a4)],.agg [.d (.int .i64 a5),.d (.int .i64 a6),.d (.str a7),.d (.str a8)],.box [.fn 53 [.cel [.int .i64 a9] 0]]]=>fun k=>g ⟨a1,a2,a3,a4⟩ ⟨a5,a6,a7,a8⟩ a9 (fun z0 z1=>k (.d (.int .i64 z0)) [.undef,.undef,.box [.fn 53 [.cel [.int .i64 z1] 0]]]) | _=>fun _=>none
noncomputable def yK8y:Code:=(Tryz.f54.body).getD .skip
noncomputable def yPFy (g:C_z74z):Env A:=mkE [(53,yldy g.z115z)] [(3,[1]),(4,[2])] [] [] [] [] [] [] [] [2]
theorem yLYy (g:C_z74z):Same (ypfy (@z74z_ g)) (abody (yPFy g) Tryz.f54 yK8y 3 [0] [.asis] g.N):=by intro args; unfold ypfy; split; exact .inr fun R k=>(by kernel_rfl); exact .inl fun R k=>rfl
theorem yBzy [Fuel]:Ok 54 (ypfy (@z74z _)):=yaay std (.cons yHVy .nil) ⟨rfl,rfl,by kernel_rfl,rfl,rfl,rfl⟩ (yLYy yELy) (cuts0 (fun _=>rfl) (by kernel_rfl)) Tryz.func54 (by kernel_rfl) (by kernel_rfl)
end Go.Am
