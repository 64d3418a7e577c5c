/- The functions of the program as Lean functions, each shown to be what the code computes, part 4. No condition: lemmas for the claim. -/
import Derived.Test.YtkcbebmbmffkjaaGreatDoorF0
import Derived.Test.YtkcbebmbmffkjaaGreatDoorFSh
import Derived.Test.YtkcbebmbmffkjaaGreatDoorF3
set_option linter.unusedVariables false
set_option maxRecDepth 100000
namespace Go.Am
open Go Go.Proofs
abbrev ycvy:Type 1:=List UInt8→{R:Type}→(Bool→Option R)→Option R
structure C_kit_IsKey where
 N:Nat
 strings_IndexByte:ycay
 strings_Trim:ydQy
def yr3y (g:C_kit_IsKey) (a1:List UInt8) {R:Type} (k0:Bool→Option R):Option R :=
 (bif (!(a1 == [])) then (bif (decide ((a1.length:Int)≤40)) then (at_ a1 0 fun x2=>(g.strings_IndexByte [97,98,99,100,101,102,103,104,105,106,107,108,109,110,111,112,113,114,115,116,117,118,119,120,121,122] (x2.toNat:Int) (fun r3=>(bif (decide (r3 ≥ 0)) then (g.strings_Trim a1 [97,98,99,100,101,102,103,104,105,106,107,108,109,110,111,112,113,114,115,116,117,118,119,120,121,122,48,49,50,51,52,53,54,55,56,57,45,95] (fun r4=>k0 (r4 == []))) else k0 false)))) else k0 false) else k0 false)
noncomputable def yqFy [Fuel]:C_kit_IsKey:=⟨NN,@strings_IndexByte _,@strings_Trim _⟩
noncomputable def kit_IsKey [Fuel]:ycvy:=@yr3y yqFy
def ybOy (g:ycvy):Spec A:=fun args=>match args with | [.d (.str a1)]=>fun k=>g a1 (fun z0=>k (.d (.bool z0)) [.undef]) | _=>fun _=>none
noncomputable def yH9y:Code:=(Tryz.f115.body).getD .skip
noncomputable def yApy (g:C_kit_IsKey):Env A:=mkE [(143,yc2y g.strings_IndexByte),(151,yfQy g.strings_Trim)] [] [] [] [] [] [] [] [] []
theorem yy4y (g:C_kit_IsKey):Same (ybOy (@yr3y g)) (abody (yApy g) Tryz.f115 yH9y 0 [] [.asis] g.N):=by intro args; unfold ybOy; split; exact .inr fun R k=>(by kernel_rfl); exact .inl fun R k=>rfl
theorem ybly [Fuel]:Ok 115 (ybOy (@kit_IsKey _)):=yaay std (.cons ycYy (.cons yiZy .nil)) ⟨rfl,rfl,by kernel_rfl,rfl,rfl,rfl⟩ (yy4y yqFy) (cuts0 (fun _=>rfl) (by kernel_rfl)) Tryz.func115 (by kernel_rfl) (by kernel_rfl)
abbrev yfsy:Type 1:=Int→Int→Int→{R:Type}→(Bool→Option R)→Option R
def z78z_ (g:Nat) (a1 a2 a3:Int) {R:Type} (k0:Bool→Option R):Option R :=
 (bif (decide (a1 < a2)) then k0 true else k0 (decide (a1 > a3)))
noncomputable def z78z [Fuel]:yfsy:=@z78z_ NN
def ydsy (g:yfsy):Spec A:=fun args=>match args with | [.d (.int .i64 a1),.d (.int .i64 a2),.d (.int .i64 a3)]=>fun k=>g a1 a2 a3 (fun z0=>k (.d (.bool z0)) [.undef,.undef,.undef]) | _=>fun _=>none
noncomputable def yKGy:Code:=(Tryz.f86.body).getD .skip
noncomputable def yPvy (g:Nat):Env A:=mkE [] [] [] [] [] [] [] [] [] []
theorem yKVy (g:Nat):Same (ydsy (@z78z_ g)) (abody (yPvy g) Tryz.f86 yKGy 0 [] [.asis] g):=by intro args; unfold ydsy; split; exact .inr fun R k=>(by kernel_rfl); exact .inl fun R k=>rfl
theorem ydMy [Fuel]:Ok 86 (ydsy (@z78z _)):=yaay std .nil ⟨rfl,rfl,by kernel_rfl,rfl,rfl,rfl⟩ (yKVy NN) (cuts0 (fun _=>rfl) (by kernel_rfl)) Tryz.func86 (by kernel_rfl) (by kernel_rfl)
abbrev yxLy:Type 1:=G_Band→G_Band→{R:Type}→(Bool→G_Band→Option R)→Option R
def z36z_ (g:Nat) (a1 a2:G_Band) {R:Type} (k0:Bool→G_Band→Option R):Option R :=
 k0 (a1.f_Key == a2.f_Key) a2
noncomputable def z36z [Fuel]:yxLy:=@z36z_ NN
def ypxy (g:yxLy):Spec A:=fun args=>match args with | [.agg [.d (.str a1),.d (.int .i64 a2),.d (.int .i64 a3)],.box [.d (.str a4),.d (.int .i64 a5),.d (.int .i64 a6)]]=>fun k=>g ⟨a1,a2,a3⟩ ⟨a4,a5,a6⟩ (fun z0 z1=>k (.d (.bool z0)) [.undef,.box [.d (.str z1.f_Key),.d (.int .i64 z1.f_Low),.d (.int .i64 z1.f_High)]]) | _=>fun _=>none
noncomputable def yHry:Code:=(Tryz.f135.body).getD .skip
noncomputable def yPXy (g:Nat):Env A:=mkE [] [(2,[1])] [] [] [] [] [] [] [] [1]
theorem yMvy (g:Nat):Same (ypxy (@z36z_ g)) (abody (yPXy g) Tryz.f135 yHry 2 [0] [.asis] g):=by intro args; unfold ypxy; split; exact .inr fun R k=>(by kernel_rfl); exact .inl fun R k=>rfl
theorem yC0y [Fuel]:Ok 135 (ypxy (@z36z _)):=yaay std .nil ⟨rfl,rfl,by kernel_rfl,rfl,rfl,rfl⟩ (yMvy NN) (cuts0 (fun _=>rfl) (by kernel_rfl)) Tryz.func135 (by kernel_rfl) (by kernel_rfl)
abbrev yxny:Type 1:=List G_Band→G_Band→{R:Type}→(Int→G_Band→Option R)→Option R
structure C_z24z where
 N:Nat
 z36z:yxLy
def z24z_L2 (g:C_z24z):Nat→List G_Band→Int→Int→G_Band→{R:Type}→(Int→G_Band→Option R)→(G_Band→Option R)→Option R
 | 0,_,_,_,_,_,_,_=>none
 | n + 1,v3,v4,v5,v6,_,e0,e1=>(bif (decide (v5 < v4)) then (get_ v3 v5 fun x10=>(g.z36z x10 v6 (fun r11 r12=>(bif r11 then e0 v5 r12 else z24z_L2 g n v3 v4 (w64 (v5 + 1)) r12 e0 e1)))) else e1 v6)
def z24z_ (g:C_z24z) (a1:List G_Band) (a2:G_Band) {R:Type} (k0:Int→G_Band→Option R):Option R :=
 (z24z_L2 g g.N a1 (a1.length:Int) 0 a2 (fun e13 e14=>k0 e13 e14) (fun e15=>k0 (-1) e15))
noncomputable def yigy [Fuel]:C_z24z:=⟨NN,@z36z _⟩
noncomputable def z24z [Fuel]:yxny:=@z24z_ yigy
def yozy (g:yxny):Spec A:=fun args=>match args with | [.d (.sl 69 a1),.fn 135 [.box [.d (.str a2),.d (.int .i64 a3),.d (.int .i64 a4)]]]=>fun k=>g a1 ⟨a2,a3,a4⟩ (fun z0 z1=>k (.d (.int .i64 z0)) [.undef,.fn 135 [.box [.d (.str z1.f_Key),.d (.int .i64 z1.f_Low),.d (.int .i64 z1.f_High)]]]) | _=>fun _=>none
def yl7y:SSt:=mkSh 19 1 [(0,.sl 69),(1,.fn 135 [.ptr 0 0]),(7,.int .i64),(8,.int .i64)] [(0,.box [.str,.int .i64,.int .i64])]
def yffy (g:C_z24z) (n:Nat):LPT A:=fun ps=>match ps with | [.d (.sl 69 p1),.d (.int .i64 p2),.d (.int .i64 p3),.d (.str p4),.d (.int .i64 p5),.d (.int .i64 p6)]=>fun K=>z24z_L2 g n p1 p2 p3 ⟨p4,p5,p6⟩ (fun z0 z1=>K .ret (mkSt 19 1 [(1,.fn 135 [.ptr 0 0]),(4,.d (.int .i64 z0))] [(0,some (.box [.d (.str z1.f_Key),.d (.int .i64 z1.f_Low),.d (.int .i64 z1.f_High)]))])) (fun z0=>K (.exit 0) (mkSt 19 1 [(1,.fn 135 [.ptr 0 0])] [(0,some (.box [.d (.str z0.f_Key),.d (.int .i64 z0.f_Low),.d (.int .i64 z0.f_High)]))])) | _=>fun _=>none
noncomputable def ygzy:Code:=(Tryz.f107.body).getD .skip
noncomputable def yrxy (g:C_z24z):Env A:=mkE [(135,ypxy g.z36z)] [] [(2,⟨[0,1,7,8],[],[0],[],[],[],[]⟩)] [(2,⟨[1,4],[],[0],[],[],[],[]⟩)] [(2,yaey yl7y (yffy g g.N))] [] [] [] [] [1]
theorem yLxy [Fuel]:yagy (yrxy yigy).C:=ct_of (P:=Tryz.prog) (T:=T) (.cons yC0y .nil) (by kernel_rfl)
noncomputable def ysZy:Code:=sub [1,0,1,0,0] ygzy
theorem yERy (g:C_z24z) (n:Nat):yahy (yrxy g) g.N ysZy yl7y (yffy g) n:=by intro ps; unfold yffy; split; exact .inr fun R K=>(by kernel_rfl); exact .inl fun R K=>rfl
theorem yEby [Fuel]:yacy (yrxy yigy) NN ysZy:=yaby yl7y (yffy yigy) (by kernel_rfl) yLxy (cuts0 (fun _=>rfl) (by kernel_rfl)) (fun ps R K=>by unfold yffy; split <;> (try unfold z24z_L2) <;> rfl) (yERy yigy)
theorem yMZy (g:C_z24z):Same (yozy (@z24z_ g)) (abody (yrxy g) Tryz.f107 ygzy 1 [0] [.asis] g.N):=by intro args; unfold yozy; split; exact .inr fun R k=>(by kernel_rfl); exact .inl fun R k=>rfl
theorem yOEy [Fuel]:Ok 107 (yozy (@z24z _)):=yaay std (.cons yC0y .nil) ⟨rfl,rfl,by kernel_rfl,rfl,rfl,rfl⟩ (yMZy yigy) (cutsL (fun _=>rfl) (.cons yEby .nil) (by kernel_rfl)) Tryz.func107 (by kernel_rfl) (by kernel_rfl)
abbrev yyqy:Type 1:=List G_Band→G_Band→{R:Type}→(Bool→G_Band→Option R)→Option R
structure C_z46z where
 N:Nat
 z24z:yxny
def z46z_ (g:C_z46z) (a1:List G_Band) (a2:G_Band) {R:Type} (k0:Bool→G_Band→Option R):Option R :=
 (g.z24z a1 a2 (fun r3 r4=>k0 (decide (r3 ≥ 0)) r4))
noncomputable def yxUy [Fuel]:C_z46z:=⟨NN,@z24z _⟩
noncomputable def z46z [Fuel]:yyqy:=@z46z_ yxUy
def ypzy (g:yyqy):Spec A:=fun args=>match args with | [.d (.sl 69 a1),.fn 135 [.box [.d (.str a2),.d (.int .i64 a3),.d (.int .i64 a4)]]]=>fun k=>g a1 ⟨a2,a3,a4⟩ (fun z0 z1=>k (.d (.bool z0)) [.undef,.fn 135 [.box [.d (.str z1.f_Key),.d (.int .i64 z1.f_Low),.d (.int .i64 z1.f_High)]]]) | _=>fun _=>none
noncomputable def yIby:Code:=(Tryz.f134.body).getD .skip
noncomputable def yO9y (g:C_z46z):Env A:=mkE [(107,yozy g.z24z)] [] [] [] [] [] [] [] [(107,0)] [1]
theorem yOny (g:C_z46z):Same (ypzy (@z46z_ g)) (abody (yO9y g) Tryz.f134 yIby 1 [0] [.asis] g.N):=by intro args; unfold ypzy; split; exact .inr fun R k=>(by kernel_rfl); exact .inl fun R k=>rfl
theorem yBLy [Fuel]:Ok 134 (ypzy (@z46z _)):=yaay std (.cons yOEy .nil) ⟨rfl,rfl,by kernel_rfl,rfl,rfl,rfl⟩ (yOny yxUy) (cuts0 (fun _=>rfl) (by kernel_rfl)) Tryz.func134 (by kernel_rfl) (by kernel_rfl)
abbrev yyly:Type 1:=List G_Band→{R:Type}→(Int→Option R)→Option R
structure C_z19z where
 N:Nat
 z78z:yfsy
 kit_IsKey:ycvy
 z46z:yyqy
def z19z_L4 (g:C_z19z):Nat→List G_Band→List G_Band→Int→Int→{R:Type}→(List G_Band→Int→Option R)→(List G_Band→Option R)→Option R
 | 0,_,_,_,_,_,_,_=>none
 | n + 1,v2,v3,v4,v5,_,e0,e1=>(bif (decide (v5 < v4)) then (get_ v3 v5 fun x11=>(g.kit_IsKey x11.f_Key (fun r12=>(bif (!r12) then e0 v2 5 else (g.z78z x11.f_Low 0 30000000000 (fun r13=>(bif r13 then e0 v2 1 else (g.z78z x11.f_High 0 30000000000 (fun r14=>(bif r14 then e0 v2 1 else (bif ((Int.tmod x11.f_Low 1000) != 0) then e0 v2 1 else (bif ((Int.tmod x11.f_High 1000) != 0) then e0 v2 1 else (bif (decide (x11.f_High≤x11.f_Low)) then e0 v2 1 else (bif (decide (v5 > 0)) then (get_ v2 (w64 (v5 - 1)) fun x15=>(bif (decide (x11.f_Low < x15.f_High)) then e0 v2 7 else z19z_L4 g n v2 v3 v4 (w64 (v5 + 1)) e0 e1)) else z19z_L4 g n v2 v3 v4 (w64 (v5 + 1)) e0 e1)))))))))))))) else e1 v2)
def z19z_L14 (g:C_z19z):Nat→List G_Band→List G_Band→Int→Int→{R:Type}→(Int→Option R)→Option R→Option R
 | 0,_,_,_,_,_,_,_=>none
 | n + 1,v19,v20,v21,v22,_,e0,e1=>(bif (decide (v22 < v21)) then (get_ v20 v22 fun x26=>(bif (decide (0≤v22) && decide (v22≤(v19.length:Int))) then (g.z46z (v19.take (v22:Int).toNat) x26 (fun r27 r28=>(bif r27 then e0 6 else z19z_L14 g n v19 v20 v21 (w64 (v22 + 1)) e0 e1))) else none)) else e1)
def z19z_ (g:C_z19z) (a1:List G_Band) {R:Type} (k0:Int→Option R):Option R :=
 (bif (decide ((a1.length:Int) > 30)) then k0 2 else (z19z_L4 g g.N a1 a1 (a1.length:Int) 0 (fun e16 e17=>k0 e17) (fun e18=>(z19z_L14 g g.N e18 e18 (e18.length:Int) 0 (fun e29=>k0 e29) (k0 0)))))
noncomputable def ybny [Fuel]:C_z19z:=⟨NN,@z78z _,@kit_IsKey _,@z46z _⟩
noncomputable def z19z [Fuel]:yyly:=@z19z_ ybny
def ypay (g:yyly):Spec A:=fun args=>match args with | [.d (.sl 69 a1)]=>fun k=>g a1 (fun z0=>k (.d (.int .i64 z0)) [.undef]) | _=>fun _=>none
def ylHy:SSt:=mkSh 78 2 [(0,.sl 69),(10,.sl 69),(11,.int .i64),(12,.int .i64)] []
def yfcy (g:C_z19z) (n:Nat):LPT A:=fun ps=>match ps with | [.d (.sl 69 p1),.d (.sl 69 p2),.d (.int .i64 p3),.d (.int .i64 p4)]=>fun K=>z19z_L4 g n p1 p2 p3 p4 (fun z0 z1=>K .ret (mkSt 78 2 [(0,.d (.sl 69 z0)),(2,.d (.int .i64 z1))] [])) (fun z0=>K (.exit 0) (mkSt 78 2 [(0,.d (.sl 69 z0))] [])) | _=>fun _=>none
def yjIy:SSt:=mkSh 78 2 [(0,.sl 69),(65,.sl 69),(66,.int .i64),(67,.int .i64)] []
def ydZy (g:C_z19z) (n:Nat):LPT A:=fun ps=>match ps with | [.d (.sl 69 p1),.d (.sl 69 p2),.d (.int .i64 p3),.d (.int .i64 p4)]=>fun K=>z19z_L14 g n p1 p2 p3 p4 (fun z0=>K .ret (mkSt 78 2 [(2,.d (.int .i64 z0))] [])) (K (.exit 3) (mkSt 78 2 [] [])) | _=>fun _=>none
noncomputable def ytWy:Code:=(Tryz.f94.body).getD .skip
noncomputable def yjLy (g:C_z19z):Env A:=mkE [(86,ydsy g.z78z),(115,ybOy g.kit_IsKey),(134,ypzy g.z46z)] [(4,[0]),(6,[1])] [(4,⟨[0,10,11,12],[],[],[],[],[],[]⟩),(14,⟨[0,65,66,67],[],[],[],[],[],[]⟩)] [(4,⟨[0,2],[],[],[],[],[],[]⟩),(14,⟨[2],[],[],[],[],[],[]⟩)] [(4,yaey ylHy (yfcy g g.N)),(14,yaey yjIy (ydZy g g.N))] [] [] [] [] []
theorem yBpy [Fuel]:yagy (yjLy ybny).C:=ct_of (P:=Tryz.prog) (T:=T) (.cons ydMy (.cons ybly (.cons yBLy .nil))) (by kernel_rfl)
noncomputable def yrDy:Code:=sub [1,1,0,1,0,0] ytWy
theorem yFIy (g:C_z19z) (n:Nat):yahy (yjLy g) g.N yrDy ylHy (yfcy g) n:=by intro ps; unfold yfcy; split; exact .inr fun R K=>(by kernel_rfl); exact .inl fun R K=>rfl
theorem yDEy [Fuel]:yacy (yjLy ybny) NN yrDy:=yaby ylHy (yfcy ybny) (by kernel_rfl) yBpy (cuts0 (fun _=>rfl) (by kernel_rfl)) (fun ps R K=>by unfold yfcy; split <;> (try unfold z19z_L4) <;> rfl) (yFIy ybny)
noncomputable def yqBy:Code:=sub [1,1,1,0,1,0,0] ytWy
theorem yD9y (g:C_z19z) (n:Nat):yahy (yjLy g) g.N yqBy yjIy (ydZy g) n:=by intro ps; unfold ydZy; split; exact .inr fun R K=>(by kernel_rfl); exact .inl fun R K=>rfl
theorem yAEy [Fuel]:yacy (yjLy ybny) NN yqBy:=yaby yjIy (ydZy ybny) (by kernel_rfl) yBpy (cuts0 (fun _=>rfl) (by kernel_rfl)) (fun ps R K=>by unfold ydZy; split <;> (try unfold z19z_L14) <;> rfl) (yD9y ybny)
theorem yOky (g:C_z19z):Same (ypay (@z19z_ g)) (abody (yjLy g) Tryz.f94 ytWy 2 [] [.asis] g.N):=by intro args; unfold ypay; split; exact .inr fun R k=>(by kernel_rfl); exact .inl fun R k=>rfl
theorem yL4y [Fuel]:Ok 94 (ypay (@z19z _)):=yaay std (.cons ydMy (.cons ybly (.cons yBLy .nil))) ⟨rfl,rfl,by kernel_rfl,rfl,rfl,rfl⟩ (yOky ybny) (cutsL (fun _=>rfl) (.cons yDEy (.cons yAEy .nil)) (by kernel_rfl)) Tryz.func94 (by kernel_rfl) (by kernel_rfl)
abbrev ykpy:Type 1:=Int→{R:Type}→(Bool→Option R)→Option R
structure C_z85z where
 N:Nat
 z78z:yfsy
def z85z_ (g:C_z85z) (a1:Int) {R:Type} (k0:Bool→Option R):Option R :=
 (g.z78z a1 0 345686399999 (fun r2=>k0 (!r2)))
noncomputable def yAgy [Fuel]:C_z85z:=⟨NN,@z78z _⟩
noncomputable def z85z [Fuel]:ykpy:=@z85z_ yAgy
def ygly (g:ykpy):Spec A:=fun args=>match args with | [.d (.int .i64 a1)]=>fun k=>g a1 (fun z0=>k (.d (.bool z0)) [.undef]) | _=>fun _=>none
noncomputable def yLhy:Code:=(Tryz.f85.body).getD .skip
noncomputable def yP8y (g:C_z85z):Env A:=mkE [(86,ydsy g.z78z)] [] [] [] [] [] [] [] [] []
theorem yOvy (g:C_z85z):Same (ygly (@z85z_ g)) (abody (yP8y g) Tryz.f85 yLhy 0 [] [.asis] g.N):=by intro args; unfold ygly; split; exact .inr fun R k=>(by kernel_rfl); exact .inl fun R k=>rfl
theorem ykBy [Fuel]:Ok 85 (ygly (@z85z _)):=yaay std (.cons ydMy .nil) ⟨rfl,rfl,by kernel_rfl,rfl,rfl,rfl⟩ (yOvy yAgy) (cuts0 (fun _=>rfl) (by kernel_rfl)) Tryz.func85 (by kernel_rfl) (by kernel_rfl)
abbrev yuJy:Type 1:=Int→{R:Type}→(Bool→Option R)→Option R
def z118z_ (g:Nat) (a1:Int) {R:Type} (k0:Bool→Option R):Option R :=
 (bif (decide (a1 ≥ 97)) then k0 (decide (a1≤122)) else k0 false)
noncomputable def z118z [Fuel]:yuJy:=@z118z_ NN
def ymcy (g:yuJy):Spec A:=fun args=>match args with | [.d (.int .u8 a1)]=>fun k=>g a1 (fun z0=>k (.d (.bool z0)) [.undef]) | _=>fun _=>none
noncomputable def yIhy:Code:=(Tryz.f209.body).getD .skip
noncomputable def yMqy (g:Nat):Env A:=mkE [] [] [] [] [] [] [] [] [] []
theorem yImy (g:Nat):Same (ymcy (@z118z_ g)) (abody (yMqy g) Tryz.f209 yIhy 0 [] [.asis] g):=by intro args; unfold ymcy; split; exact .inr fun R k=>(by kernel_rfl); exact .inl fun R k=>rfl
theorem yzqy [Fuel]:Ok 209 (ymcy (@z118z _)):=yaay std .nil ⟨rfl,rfl,by kernel_rfl,rfl,rfl,rfl⟩ (yImy NN) (cuts0 (fun _=>rfl) (by kernel_rfl)) Tryz.func209 (by kernel_rfl) (by kernel_rfl)
abbrev yo5y:Type 1:=Int→{R:Type}→(Bool→Option R)→Option R
def z113z_ (g:Nat) (a1:Int) {R:Type} (k0:Bool→Option R):Option R :=
 (bif (decide (a1 ≥ 48)) then k0 (decide (a1≤57)) else k0 false)
noncomputable def z113z [Fuel]:yo5y:=@z113z_ NN
def yily (g:yo5y):Spec A:=fun args=>match args with | [.d (.int .u8 a1)]=>fun k=>g a1 (fun z0=>k (.d (.bool z0)) [.undef]) | _=>fun _=>none
noncomputable def yHSy:Code:=(Tryz.f178.body).getD .skip
noncomputable def yMby (g:Nat):Env A:=mkE [] [] [] [] [] [] [] [] [] []
theorem yJzy (g:Nat):Same (yily (@z113z_ g)) (abody (yMby g) Tryz.f178 yHSy 0 [] [.asis] g):=by intro args; unfold yily; split; exact .inr fun R k=>(by kernel_rfl); exact .inl fun R k=>rfl
theorem yrey [Fuel]:Ok 178 (yily (@z113z _)):=yaay std .nil ⟨rfl,rfl,by kernel_rfl,rfl,rfl,rfl⟩ (yJzy NN) (cuts0 (fun _=>rfl) (by kernel_rfl)) Tryz.func178 (by kernel_rfl) (by kernel_rfl)
abbrev ysdy:Type 1:=List UInt8→{R:Type}→(Int→Bool→Option R)→Option R
structure C_z79z where
 N:Nat
 z113z:yo5y
 z118z:yuJy
def z79z_L2 (g:C_z79z):Nat→List UInt8→Int→Int→Int→{R:Type}→(Int→Bool→Option R)→(Int→Option R)→Option R
 | 0,_,_,_,_,_,_,_=>none
 | n + 1,v2,v3,v4,v5,_,e0,e1=>(bif (decide (v5 < v4)) then (get_ v2 v5 fun x10=>(g.z118z (x10.toNat:Int) (fun r11=>(bif r11 then z79z_L2 g n v2 (w64 (v3 + 1)) v4 (w64 (v5 + 1)) e0 e1 else (get_ v2 v5 fun x12=>(g.z113z (x12.toNat:Int) (fun r13=>(bif (!r13) then e0 0 false else z79z_L2 g n v2 v3 v4 (w64 (v5 + 1)) e0 e1)))))))) else e1 v3)
def z79z_ (g:C_z79z) (a1:List UInt8) {R:Type} (k0:Int→Bool→Option R):Option R :=
 (z79z_L2 g g.N a1 0 (a1.length:Int) 0 (fun e14 e15=>k0 e14 e15) (fun e16=>k0 e16 true))
noncomputable def ykDy [Fuel]:C_z79z:=⟨NN,@z113z _,@z118z _⟩
noncomputable def z79z [Fuel]:ysdy:=@z79z_ ykDy
def ykny (g:ysdy):Spec A:=fun args=>match args with | [.d (.str a1)]=>fun k=>g a1 (fun z0 z1=>k (.tup [.d (.int .i64 z0),.d (.bool z1)]) [.undef]) | _=>fun _=>none
def yl0y:SSt:=mkSh 25 0 [(0,.str),(2,.int .i64),(6,.int .i64),(7,.int .i64)] []
def ygby (g:C_z79z) (n:Nat):LPT A:=fun ps=>match ps with | [.d (.str p1),.d (.int .i64 p2),.d (.int .i64 p3),.d (.int .i64 p4)]=>fun K=>z79z_L2 g n p1 p2 p3 p4 (fun z0 z1=>K .ret (mkSt 25 0 [(2,.d (.int .i64 z0)),(3,.d (.bool z1))] [])) (fun z0=>K (.exit 0) (mkSt 25 0 [(2,.d (.int .i64 z0))] [])) | _=>fun _=>none
noncomputable def yx5y:Code:=(Tryz.f177.body).getD .skip
noncomputable def ytdy (g:C_z79z):Env A:=mkE [(178,yily g.z113z),(209,ymcy g.z118z)] [] [(2,⟨[0,2,6,7],[],[],[],[],[],[]⟩)] [(2,⟨[2,3],[],[],[],[],[],[]⟩)] [(2,yaey yl0y (ygby g g.N))] [] [] [] [] []
theorem yKuy [Fuel]:yagy (ytdy ykDy).C:=ct_of (P:=Tryz.prog) (T:=T) (.cons yrey (.cons yzqy .nil)) (by kernel_rfl)
noncomputable def ysWy:Code:=sub [1,0,1,0,0] yx5y
theorem yGBy (g:C_z79z) (n:Nat):yahy (ytdy g) g.N ysWy yl0y (ygby g) n:=by intro ps; unfold ygby; split; exact .inr fun R K=>(by kernel_rfl); exact .inl fun R K=>rfl
theorem yC7y [Fuel]:yacy (ytdy ykDy) NN ysWy:=yaby yl0y (ygby ykDy) (by kernel_rfl) yKuy (cuts0 (fun _=>rfl) (by kernel_rfl)) (fun ps R K=>by unfold ygby; split <;> (try unfold z79z_L2) <;> rfl) (yGBy ykDy)
theorem yNFy (g:C_z79z):Same (ykny (@z79z_ g)) (abody (ytdy g) Tryz.f177 yx5y 0 [] [.asis,.asis] g.N):=by intro args; unfold ykny; split; exact .inr fun R k=>(by kernel_rfl); exact .inl fun R k=>rfl
theorem yBDy [Fuel]:Ok 177 (ykny (@z79z _)):=yaay std (.cons yrey (.cons yzqy .nil)) ⟨rfl,rfl,by kernel_rfl,rfl,rfl,rfl⟩ (yNFy ykDy) (cutsL (fun _=>rfl) (.cons yC7y .nil) (by kernel_rfl)) Tryz.func177 (by kernel_rfl) (by kernel_rfl)
abbrev ydty:Type 1:=List UInt8→Int→{R:Type}→(Int→Option R)→Option R
def strings_IndexRune [Fuel]:ydty:=@X_ixr
def yeNy (g:ydty):Spec A:=ykfy g
theorem yfwy [Fuel]:Ok 211 (yeNy (@strings_IndexRune _)):=⟨ywyy (yGgy (fun s r w h0 h1=>Any.strings_IndexRune_ascii Tryz.lays152 s r w h0 h1)),yBiy,ybMy (fn:=Tryz.f211) Tryz.func211 (by kernel_rfl) (by kernel_rfl)⟩
abbrev yxCy:Type 1:=Int→{R:Type}→(Bool→Option R)→Option R
def z93z_ (g:Nat) (a1:Int) {R:Type} (k0:Bool→Option R):Option R :=
 k0 (decide (a1 > 8))
noncomputable def z93z [Fuel]:yxCy:=@z93z_ NN
def yoAy (g:yxCy):Spec A:=fun args=>match args with | [.d (.int .i64 a1)]=>fun k=>g a1 (fun z0=>k (.d (.bool z0)) [.undef]) | _=>fun _=>none
noncomputable def yI7y:Code:=(Tryz.f212.body).getD .skip
noncomputable def yOLy (g:Nat):Env A:=mkE [] [] [] [] [] [] [] [] [] []
theorem yMsy (g:Nat):Same (yoAy (@z93z_ g)) (abody (yOLy g) Tryz.f212 yI7y 0 [] [.asis] g):=by intro args; unfold yoAy; split; exact .inr fun R k=>(by kernel_rfl); exact .inl fun R k=>rfl
theorem yBIy [Fuel]:Ok 212 (yoAy (@z93z _)):=yaay std .nil ⟨rfl,rfl,by kernel_rfl,rfl,rfl,rfl⟩ (yMsy NN) (cuts0 (fun _=>rfl) (by kernel_rfl)) Tryz.func212 (by kernel_rfl) (by kernel_rfl)
abbrev yzVy:Type 1:=List UInt8→{R:Type}→Option R
def z96z_ (g:Nat) (a1:List UInt8) {R:Type}  : Option R :=
 none
noncomputable def z96z [Fuel]:yzVy:=@z96z_ NN
def ypjy (g:yzVy):Spec A:=fun args=>match args with | [.d (.str a1)]=>fun k=>g a1 | _=>fun _=>none
noncomputable def yyUy:Code:=(Tryz.f187.body).getD .skip
noncomputable def yGVy (g:Nat):Env A:=mkE [] [] [] [] [] [] [] [] [] []
noncomputable def yEsy:Code:=sub [1,0,1,0,0] yyUy
theorem yDpy [Fuel]:yacy (yGVy NN) NN yEsy:=yBSy (by kernel_rfl)
theorem yNiy (g:Nat):Same (ypjy (@z96z_ g)) (abody (yGVy g) Tryz.f187 yyUy 0 [] [.asis,.asis] g):=by intro args; unfold ypjy; split; exact .inr fun R k=>(by kernel_rfl); exact .inl fun R k=>rfl
theorem yCly [Fuel]:Ok 187 (ypjy (@z96z _)):=yaay std .nil ⟨rfl,rfl,by kernel_rfl,rfl,rfl,rfl⟩ (yNiy NN) (cutsL (fun _=>rfl) (.cons yDpy .nil) (by kernel_rfl)) Tryz.func187 (by kernel_rfl) (by kernel_rfl)
abbrev yuby:Type 1:=Int→{R:Type}→Option R
def z116z_ (g:Nat) (a1:Int) {R:Type}  : Option R :=
 none
noncomputable def z116z [Fuel]:yuby:=@z116z_ NN
def ylCy (g:yuby):Spec A:=fun args=>match args with | [.d (.int .u8 a1)]=>fun k=>g a1 | _=>fun _=>none
noncomputable def yHAy:Code:=(Tryz.f230.body).getD .skip
noncomputable def yOuy (g:Nat):Env A:=mkE [] [] [] [] [] [] [] [] [] []
theorem yHFy (g:Nat):Same (ylCy (@z116z_ g)) (abody (yOuy g) Tryz.f230 yHAy 0 [] [.asis] g):=by intro args; unfold ylCy; split; exact .inr fun R k=>(by kernel_rfl); exact .inl fun R k=>rfl
theorem ywTy [Fuel]:Ok 230 (ylCy (@z116z _)):=yaay std .nil ⟨rfl,rfl,by kernel_rfl,rfl,rfl,rfl⟩ (yHFy NN) (cuts0 (fun _=>rfl) (by kernel_rfl)) Tryz.func230 (by kernel_rfl) (by kernel_rfl)
abbrev yyvy:Type 1:=List UInt8→{R:Type}→(Int→Int→Option R)→Option R
def z91z_ (g:Nat) (a1:List UInt8) {R:Type} (k0:Int→Int→Option R):Option R :=
 (bif (decide ((a1.length:Int) < 1)) then k0 65533 0 else (at_ a1 0 fun x2=>none))
noncomputable def z91z [Fuel]:yyvy:=@z91z_ NN
def ypCy (g:yyvy):Spec A:=fun args=>match args with | [.d (.str a1)]=>fun k=>g a1 (fun z0 z1=>k (.tup [.d (.int .i32 z0),.d (.int .i64 z1)]) [.undef]) | _=>fun _=>none
noncomputable def yHpy:Code:=(Tryz.f231.body).getD .skip
noncomputable def yPry (g:Nat):Env A:=mkE [] [] [] [] [] [] [] [] [] []
theorem yNCy (g:Nat):Same (ypCy (@z91z_ g)) (abody (yPry g) Tryz.f231 yHpy 0 [] [.asis,.asis] g):=by intro args; unfold ypCy; split; exact .inr fun R k=>(by kernel_rfl); exact .inl fun R k=>rfl
theorem yM4y [Fuel]:Ok 231 (ypCy (@z91z _)):=yaay std .nil ⟨rfl,rfl,by kernel_rfl,rfl,rfl,rfl⟩ (yNCy NN) (cuts0 (fun _=>rfl) (by kernel_rfl)) Tryz.func231 (by kernel_rfl) (by kernel_rfl)
abbrev ywNy:Type 1:=List UInt8→{R:Type}→(Int→Int→Option R)→Option R
structure C_z82z where
 N:Nat
 z91z:yyvy
def z82z_ (g:C_z82z) (a1:List UInt8) {R:Type} (k0:Int→Int→Option R):Option R :=
 (bif (!(a1 == [])) then (at_ a1 0 fun x2=>(bif (decide ((x2.toNat:Int) < 128)) then (at_ a1 0 fun x3=>k0 (IntKind.i32.wrap (x3.toNat:Int)) 1) else (g.z91z a1 (fun r4 r5=>k0 r4 r5)))) else (g.z91z a1 (fun r6 r7=>k0 r6 r7)))
noncomputable def yGey [Fuel]:C_z82z:=⟨NN,@z91z _⟩
noncomputable def z82z [Fuel]:ywNy:=@z82z_ yGey
def yoBy (g:ywNy):Spec A:=fun args=>match args with | [.d (.str a1)]=>fun k=>g a1 (fun z0 z1=>k (.tup [.d (.int .i32 z0),.d (.int .i64 z1)]) [.undef]) | _=>fun _=>none
noncomputable def yH7y:Code:=(Tryz.f216.body).getD .skip
noncomputable def yPay (g:C_z82z):Env A:=mkE [(231,ypCy g.z91z)] [] [] [] [] [] [] [] [] []
theorem yK5y (g:C_z82z):Same (yoBy (@z82z_ g)) (abody (yPay g) Tryz.f216 yH7y 0 [] [.asis,.asis] g.N):=by intro args; unfold yoBy; split; exact .inr fun R k=>(by kernel_rfl); exact .inl fun R k=>rfl
theorem yCMy [Fuel]:Ok 216 (yoBy (@z82z _)):=yaay std (.cons yM4y .nil) ⟨rfl,rfl,by kernel_rfl,rfl,rfl,rfl⟩ (yK5y yGey) (cuts0 (fun _=>rfl) (by kernel_rfl)) Tryz.func216 (by kernel_rfl) (by kernel_rfl)
abbrev yyLy:Type 1:=List UInt8→{R:Type}→(Int→Int→Option R)→Option R
structure C_z40z where
 N:Nat
 z82z:ywNy
 z116z:yuby
def z40z_L10 (g:C_z40z):Nat→List UInt8→Int→Int→Int→{R:Type}→(List UInt8→Int→Int→Option R)→Option R
 | 0,_,_,_,_,_,_=>none
 | n + 1,v3,v4,v5,v6,_,e0=>(bif (decide (v5 ≥ v6)) then (get_ v3 v5 fun x8=>(g.z116z (x8.toNat:Int))) else e0 v3 v4 v5)
def z40z_ (g:C_z40z) (a1:List UInt8) {R:Type} (k0:Int→Int→Option R):Option R :=
 (bif ((a1.length:Int) == 0) then k0 65533 0 else (get_ a1 (w64 ((a1.length:Int) - 1)) fun x2=>(bif (decide ((IntKind.i32.wrap (x2.toNat:Int)) < 128)) then k0 (IntKind.i32.wrap (x2.toNat:Int)) 1 else (z40z_L10 g g.N a1 (a1.length:Int) (w64 ((w64 ((a1.length:Int) - 1)) - 1)) (if 0 > (w64 ((a1.length:Int) - 4)) then 0 else (w64 ((a1.length:Int) - 4))) (fun e9 e10 e11=>(bif (decide (e11 < 0)) then (bif (decide (0≤0) && (decide (0≤e10) && decide (e10≤(e9.length:Int)))) then (g.z82z ((e9.take (e10:Int).toNat).drop (0:Int).toNat) (fun r12 r13=>(bif ((w64 (0 + r13)) != e10) then k0 65533 1 else k0 r12 r13))) else none) else (bif (decide (0≤e11) && (decide (e11≤e10) && decide (e10≤(e9.length:Int)))) then (g.z82z ((e9.take (e10:Int).toNat).drop (e11:Int).toNat) (fun r14 r15=>(bif ((w64 (e11 + r15)) != e10) then k0 65533 1 else k0 r14 r15))) else none)))))))
noncomputable def yj5y [Fuel]:C_z40z:=⟨NN,@z82z _,@z116z _⟩
noncomputable def z40z [Fuel]:yyLy:=@z40z_ yj5y
def ypNy (g:yyLy):Spec A:=fun args=>match args with | [.d (.str a1)]=>fun k=>g a1 (fun z0 z1=>k (.tup [.d (.int .i32 z0),.d (.int .i64 z1)]) [.undef]) | _=>fun _=>none
def yjuy:SSt:=mkSh 51 0 [(0,.str),(4,.int .i64),(5,.int .i64),(6,.int .i64)] []
def yd9y (g:C_z40z) (n:Nat):LPT A:=fun ps=>match ps with | [.d (.str p1),.d (.int .i64 p2),.d (.int .i64 p3),.d (.int .i64 p4)]=>fun K=>z40z_L10 g n p1 p2 p3 p4 (fun z0 z1 z2=>K (.exit 0) (mkSt 51 0 [(0,.d (.str z0)),(4,.d (.int .i64 z1)),(5,.d (.int .i64 z2))] [])) | _=>fun _=>none
noncomputable def yx9y:Code:=(Tryz.f214.body).getD .skip
noncomputable def yr2y (g:C_z40z):Env A:=mkE [(216,yoBy g.z82z),(230,ylCy g.z116z)] [] [(10,⟨[0,4,5,6],[],[],[],[],[],[]⟩)] [(10,⟨[0,4,5],[],[],[],[],[],[]⟩)] [(10,yaey yjuy (yd9y g g.N))] [] [] [] [] []
theorem yNQy [Fuel]:yagy (yr2y yj5y).C:=ct_of (P:=Tryz.prog) (T:=T) (.cons yCMy (.cons ywTy .nil)) (by kernel_rfl)
noncomputable def yqvy:Code:=sub [1,1,1,1,1,1,1,0,1,0,0] yx9y
theorem yEcy (g:C_z40z) (n:Nat):yahy (yr2y g) g.N yqvy yjuy (yd9y g) n:=by intro ps; unfold yd9y; split; exact .inr fun R K=>(by kernel_rfl); exact .inl fun R K=>rfl
theorem yAHy [Fuel]:yacy (yr2y yj5y) NN yqvy:=yaby yjuy (yd9y yj5y) (by kernel_rfl) yNQy (cuts0 (fun _=>rfl) (by kernel_rfl)) (fun ps R K=>by unfold yd9y; split <;> (try unfold z40z_L10) <;> rfl) (yEcy yj5y)
theorem yKZy (g:C_z40z):Same (ypNy (@z40z_ g)) (abody (yr2y g) Tryz.f214 yx9y 0 [] [.asis,.asis] g.N):=by intro args; unfold ypNy; split; exact .inr fun R k=>(by kernel_rfl); exact .inl fun R k=>rfl
theorem yBOy [Fuel]:Ok 214 (ypNy (@z40z _)):=yaay std (.cons yCMy (.cons ywTy .nil)) ⟨rfl,rfl,by kernel_rfl,rfl,rfl,rfl⟩ (yKZy yj5y) (cutsL (fun _=>rfl) (.cons yAHy .nil) (by kernel_rfl)) Tryz.func214 (by kernel_rfl) (by kernel_rfl)
end Go.Am
