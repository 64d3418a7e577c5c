/- The functions of the program as Lean functions, each shown to be what the code computes, part 4. No condition: lemmas for the claim. -/
import Derived.Test.YtnlblmnoiepeaaaGreatDoorF0
import Derived.Test.YtnlblmnoiepeaaaGreatDoorFSh
import Derived.Test.YtnlblmnoiepeaaaGreatDoorF2
import Derived.Test.YtnlblmnoiepeaaaGreatDoorF3
set_option linter.unusedVariables false
set_option maxRecDepth 100000
namespace Go.Am
open Go Go.Proofs
abbrev ydjy:Type 1:=List UInt8→Int→{R:Type}→(Int→Option R)→Option R
def strings_IndexByte [Fuel]:ydjy:=@X_ixb
def yfjy (g:ydjy):Spec A:=yjAy g
theorem yk1y [Fuel]:Ok 130 (yfjy (@strings_IndexByte _)):=⟨yu0y (yFWy (Any.strings_IndexByte Tryz.lays137)),yzBy,yaOy (fn:=Tryz.f130) Tryz.func130 (by kernel_rfl) (by kernel_rfl)⟩
abbrev ybry:Type 1:=List UInt8→{R:Type}→(Bool→Option R)→Option R
structure C_kit_IsKey where
 N:Nat
 strings_IndexByte:ydjy
 strings_Trim:ydIy
def yshy (g:C_kit_IsKey) (a1:List UInt8) {R:Type} (k0:Bool→Option R):Option R :=
 (bif (!(a1 == [])) then (bif (decide ((a1.length:Int)≤40)) then (at_ a1 0 fun x2=>(g.strings_IndexByte [97,98,99,100,101,102,103,104,105,106,107,108,109,110,111,112,113,114,115,116,117,118,119,120,121,122] (x2.toNat:Int) (fun r3=>(bif (decide (r3 ≥ 0)) then (g.strings_Trim a1 [97,98,99,100,101,102,103,104,105,106,107,108,109,110,111,112,113,114,115,116,117,118,119,120,121,122,48,49,50,51,52,53,54,55,56,57,45,95] (fun r4=>k0 (r4 == []))) else k0 false)))) else k0 false) else k0 false)
noncomputable def ypfy [Fuel]:C_kit_IsKey:=⟨NN,@strings_IndexByte _,@strings_Trim _⟩
noncomputable def kit_IsKey [Fuel]:ybry:=@yshy ypfy
def ya2y (g:ybry):Spec A:=fun args=>match args with | [.d (.str a1)]=>fun k=>g a1 (fun z0=>k (.d (.bool z0)) [.undef]) | _=>fun _=>none
noncomputable def yKgy:Code:=(Tryz.f80.body).getD .skip
noncomputable def yAhy (g:C_kit_IsKey):Env A:=mkE [(130,yfjy g.strings_IndexByte),(131,yf2y g.strings_Trim)] [] [] [] [] [] [] [] [] []
theorem ywjy (g:C_kit_IsKey):Same (ya2y (@yshy g)) (abody (yAhy g) Tryz.f80 yKgy 0 [] [.asis] g.N):=by intro args; unfold ya2y; split; exact .inr fun R k=>(by kernel_rfl); exact .inl fun R k=>rfl
theorem yaKy [Fuel]:Ok 80 (ya2y (@kit_IsKey _)):=yaay std (.cons yk1y (.cons yiSy .nil)) ⟨rfl,rfl,by kernel_rfl,rfl,rfl,rfl⟩ (ywjy ypfy) (cuts0 (fun _=>rfl) (by kernel_rfl)) Tryz.func80 (by kernel_rfl) (by kernel_rfl)
abbrev ycHy:Type 1:=Int→Int→Int→{R:Type}→(Bool→Option R)→Option R
def z45z_ (g:Nat) (a1 a2 a3:Int) {R:Type} (k0:Bool→Option R):Option R :=
 (bif (decide (a1 < a2)) then k0 true else k0 (decide (a1 > a3)))
noncomputable def z45z [Fuel]:ycHy:=@z45z_ NN
def ybWy (g:ycHy):Spec A:=fun args=>match args with | [.d (.int .i64 a1),.d (.int .i64 a2),.d (.int .i64 a3)]=>fun k=>g a1 a2 a3 (fun z0=>k (.d (.bool z0)) [.undef,.undef,.undef]) | _=>fun _=>none
noncomputable def yJqy:Code:=(Tryz.f42.body).getD .skip
noncomputable def yOby (g:Nat):Env A:=mkE [] [] [] [] [] [] [] [] [] []
theorem yITy (g:Nat):Same (ybWy (@z45z_ g)) (abody (yOby g) Tryz.f42 yJqy 0 [] [.asis] g):=by intro args; unfold ybWy; split; exact .inr fun R k=>(by kernel_rfl); exact .inl fun R k=>rfl
theorem ybZy [Fuel]:Ok 42 (ybWy (@z45z _)):=yaay std .nil ⟨rfl,rfl,by kernel_rfl,rfl,rfl,rfl⟩ (yITy NN) (cuts0 (fun _=>rfl) (by kernel_rfl)) Tryz.func42 (by kernel_rfl) (by kernel_rfl)
abbrev ywyy:Type 1:=G_Band→G_Band→{R:Type}→(Bool→G_Band→Option R)→Option R
def z17z_ (g:Nat) (a1 a2:G_Band) {R:Type} (k0:Bool→G_Band→Option R):Option R :=
 k0 (a1.f_Key == a2.f_Key) a2
noncomputable def z17z [Fuel]:ywyy:=@z17z_ NN
def ynLy (g:ywyy):Spec A:=fun args=>match args with | [.agg [.d (.str a1),.d (.int .i64 a2),.d (.int .i64 a3)],.box [.d (.str a4),.d (.int .i64 a5),.d (.int .i64 a6)]]=>fun k=>g ⟨a1,a2,a3⟩ ⟨a4,a5,a6⟩ (fun z0 z1=>k (.d (.bool z0)) [.undef,.box [.d (.str z1.f_Key),.d (.int .i64 z1.f_Low),.d (.int .i64 z1.f_High)]]) | _=>fun _=>none
noncomputable def yLgy:Code:=(Tryz.f82.body).getD .skip
noncomputable def yOry (g:Nat):Env A:=mkE [] [(2,[1])] [] [] [] [] [] [] [] [1]
theorem yJey (g:Nat):Same (ynLy (@z17z_ g)) (abody (yOry g) Tryz.f82 yLgy 2 [0] [.asis] g):=by intro args; unfold ynLy; split; exact .inr fun R k=>(by kernel_rfl); exact .inl fun R k=>rfl
theorem yBay [Fuel]:Ok 82 (ynLy (@z17z _)):=yaay std .nil ⟨rfl,rfl,by kernel_rfl,rfl,rfl,rfl⟩ (yJey NN) (cuts0 (fun _=>rfl) (by kernel_rfl)) Tryz.func82 (by kernel_rfl) (by kernel_rfl)
abbrev yyZy:Type 1:=List G_Band→G_Band→{R:Type}→(Int→G_Band→Option R)→Option R
structure C_z11z where
 N:Nat
 z17z:ywyy
def z11z_L2 (g:C_z11z):Nat→List G_Band→Int→Int→G_Band→{R:Type}→(Int→G_Band→Option R)→(G_Band→Option R)→Option R
 | 0,_,_,_,_,_,_,_=>none
 | n + 1,v3,v4,v5,v6,_,e0,e1=>(bif (decide (v5 < v4)) then (get_ v3 v5 fun x10=>(g.z17z x10 v6 (fun r11 r12=>(bif r11 then e0 v5 r12 else z11z_L2 g n v3 v4 (w64 (v5 + 1)) r12 e0 e1)))) else e1 v6)
def z11z_ (g:C_z11z) (a1:List G_Band) (a2:G_Band) {R:Type} (k0:Int→G_Band→Option R):Option R :=
 (z11z_L2 g g.N a1 (a1.length:Int) 0 a2 (fun e13 e14=>k0 e13 e14) (fun e15=>k0 (-1) e15))
noncomputable def yity [Fuel]:C_z11z:=⟨NN,@z17z _⟩
noncomputable def z11z [Fuel]:yyZy:=@z11z_ yity
def yofy (g:yyZy):Spec A:=fun args=>match args with | [.d (.sl 62 a1),.fn 82 [.box [.d (.str a2),.d (.int .i64 a3),.d (.int .i64 a4)]]]=>fun k=>g a1 ⟨a2,a3,a4⟩ (fun z0 z1=>k (.d (.int .i64 z0)) [.undef,.fn 82 [.box [.d (.str z1.f_Key),.d (.int .i64 z1.f_Low),.d (.int .i64 z1.f_High)]]]) | _=>fun _=>none
def ylpy:SSt:=mkSh 19 1 [(0,.sl 62),(1,.fn 82 [.ptr 0 0]),(7,.int .i64),(8,.int .i64)] [(0,.box [.str,.int .i64,.int .i64])]
def yfEy (g:C_z11z) (n:Nat):LPT A:=fun ps=>match ps with | [.d (.sl 62 p1),.d (.int .i64 p2),.d (.int .i64 p3),.d (.str p4),.d (.int .i64 p5),.d (.int .i64 p6)]=>fun K=>z11z_L2 g n p1 p2 p3 ⟨p4,p5,p6⟩ (fun z0 z1=>K .ret (mkSt 19 1 [(1,.fn 82 [.ptr 0 0]),(4,.d (.int .i64 z0))] [(0,some (.box [.d (.str z1.f_Key),.d (.int .i64 z1.f_Low),.d (.int .i64 z1.f_High)]))])) (fun z0=>K (.exit 0) (mkSt 19 1 [(1,.fn 82 [.ptr 0 0])] [(0,some (.box [.d (.str z0.f_Key),.d (.int .i64 z0.f_Low),.d (.int .i64 z0.f_High)]))])) | _=>fun _=>none
noncomputable def yoDy:Code:=(Tryz.f83.body).getD .skip
noncomputable def ysiy (g:C_z11z):Env A:=mkE [(82,ynLy g.z17z)] [] [(2,⟨[0,1,7,8],[],[0],[],[],[],[]⟩)] [(2,⟨[1,4],[],[0],[],[],[],[]⟩)] [(2,yafy ylpy (yfEy g g.N))] [] [] [] [] [1]
theorem yKTy [Fuel]:yahy (ysiy yity).C:=ct_of (P:=Tryz.prog) (T:=T) (.cons yBay .nil) (by kernel_rfl)
noncomputable def ysDy:Code:=sub [1,0,1,0,0] yoDy
theorem yEsy (g:C_z11z) (n:Nat):yaky (ysiy g) g.N ysDy ylpy (yfEy g) n:=by intro ps; unfold yfEy; split; exact .inr fun R K=>(by kernel_rfl); exact .inl fun R K=>rfl
theorem yDFy [Fuel]:yacy (ysiy yity) NN ysDy:=yaey ylpy (yfEy yity) (by kernel_rfl) yKTy (cuts0 (fun _=>rfl) (by kernel_rfl)) (fun ps R K=>by unfold yfEy; split <;> (try unfold z11z_L2) <;> rfl) (yEsy yity)
theorem yI7y (g:C_z11z):Same (yofy (@z11z_ g)) (abody (ysiy g) Tryz.f83 yoDy 1 [0] [.asis] g.N):=by intro args; unfold yofy; split; exact .inr fun R k=>(by kernel_rfl); exact .inl fun R k=>rfl
theorem yKIy [Fuel]:Ok 83 (yofy (@z11z _)):=yaay std (.cons yBay .nil) ⟨rfl,rfl,by kernel_rfl,rfl,rfl,rfl⟩ (yI7y yity) (cutsL (fun _=>rfl) (.cons yDFy .nil) (by kernel_rfl)) Tryz.func83 (by kernel_rfl) (by kernel_rfl)
abbrev yvAy:Type 1:=List G_Band→G_Band→{R:Type}→(Bool→G_Band→Option R)→Option R
structure C_z29z where
 N:Nat
 z11z:yyZy
def z29z_ (g:C_z29z) (a1:List G_Band) (a2:G_Band) {R:Type} (k0:Bool→G_Band→Option R):Option R :=
 (g.z11z a1 a2 (fun r3 r4=>k0 (decide (r3 ≥ 0)) r4))
noncomputable def ywby [Fuel]:C_z29z:=⟨NN,@z11z _⟩
noncomputable def z29z [Fuel]:yvAy:=@z29z_ ywby
def yoSy (g:yvAy):Spec A:=fun args=>match args with | [.d (.sl 62 a1),.fn 82 [.box [.d (.str a2),.d (.int .i64 a3),.d (.int .i64 a4)]]]=>fun k=>g a1 ⟨a2,a3,a4⟩ (fun z0 z1=>k (.d (.bool z0)) [.undef,.fn 82 [.box [.d (.str z1.f_Key),.d (.int .i64 z1.f_Low),.d (.int .i64 z1.f_High)]]]) | _=>fun _=>none
noncomputable def yMyy:Code:=(Tryz.f81.body).getD .skip
noncomputable def yOjy (g:C_z29z):Env A:=mkE [(83,yofy g.z11z)] [] [] [] [] [] [] [] [(83,0)] [1]
theorem yMry (g:C_z29z):Same (yoSy (@z29z_ g)) (abody (yOjy g) Tryz.f81 yMyy 1 [0] [.asis] g.N):=by intro args; unfold yoSy; split; exact .inr fun R k=>(by kernel_rfl); exact .inl fun R k=>rfl
theorem yBNy [Fuel]:Ok 81 (yoSy (@z29z _)):=yaay std (.cons yKIy .nil) ⟨rfl,rfl,by kernel_rfl,rfl,rfl,rfl⟩ (yMry ywby) (cuts0 (fun _=>rfl) (by kernel_rfl)) Tryz.func81 (by kernel_rfl) (by kernel_rfl)
abbrev T_z9z:Type 1:=List G_Band→{R:Type}→(Int→Option R)→Option R
structure C_z9z where
 N:Nat
 z45z:ycHy
 kit_IsKey:ybry
 z29z:yvAy
def z9z_L4 (g:C_z9z):Nat→List G_Band→List G_Band→Int→Int→{R:Type}→(List G_Band→Int→Option R)→(List G_Band→Option R)→Option R
 | 0,_,_,_,_,_,_,_=>none
 | n + 1,v2,v3,v4,v5,_,e0,e1=>(bif (decide (v5 < v4)) then (get_ v3 v5 fun x11=>(g.kit_IsKey x11.f_Key (fun r12=>(bif (!r12) then e0 v2 5 else (g.z45z x11.f_Low 0 30000000000 (fun r13=>(bif r13 then e0 v2 1 else (g.z45z x11.f_High 0 30000000000 (fun r14=>(bif r14 then e0 v2 1 else (bif ((Int.tmod x11.f_Low 1000) != 0) then e0 v2 1 else (bif ((Int.tmod x11.f_High 1000) != 0) then e0 v2 1 else (bif (decide (x11.f_High≤x11.f_Low)) then e0 v2 1 else (bif (decide (v5 > 0)) then (get_ v2 (w64 (v5 - 1)) fun x15=>(bif (decide (x11.f_Low < x15.f_High)) then e0 v2 7 else z9z_L4 g n v2 v3 v4 (w64 (v5 + 1)) e0 e1)) else z9z_L4 g n v2 v3 v4 (w64 (v5 + 1)) e0 e1)))))))))))))) else e1 v2)
def z9z_L14 (g:C_z9z):Nat→List G_Band→List G_Band→Int→Int→{R:Type}→(Int→Option R)→Option R→Option R
 | 0,_,_,_,_,_,_,_=>none
 | n + 1,v19,v20,v21,v22,_,e0,e1=>(bif (decide (v22 < v21)) then (get_ v20 v22 fun x26=>(bif (decide (0≤v22) && decide (v22≤(v19.length:Int))) then (g.z29z (v19.take (v22:Int).toNat) x26 (fun r27 r28=>(bif r27 then e0 6 else z9z_L14 g n v19 v20 v21 (w64 (v22 + 1)) e0 e1))) else none)) else e1)
def z9z_ (g:C_z9z) (a1:List G_Band) {R:Type} (k0:Int→Option R):Option R :=
 (bif (decide ((a1.length:Int) > 30)) then k0 2 else (z9z_L4 g g.N a1 a1 (a1.length:Int) 0 (fun e16 e17=>k0 e17) (fun e18=>(z9z_L14 g g.N e18 e18 (e18.length:Int) 0 (fun e29=>k0 e29) (k0 0)))))
noncomputable def I_z9z [Fuel]:C_z9z:=⟨NN,@z45z _,@kit_IsKey _,@z29z _⟩
noncomputable def z9z [Fuel]:T_z9z:=@z9z_ I_z9z
def ym8y (g:T_z9z):Spec A:=fun args=>match args with | [.d (.sl 62 a1)]=>fun k=>g a1 (fun z0=>k (.d (.int .i64 z0)) [.undef]) | _=>fun _=>none
def ynxy:SSt:=mkSh 78 2 [(0,.sl 62),(10,.sl 62),(11,.int .i64),(12,.int .i64)] []
def yg2y (g:C_z9z) (n:Nat):LPT A:=fun ps=>match ps with | [.d (.sl 62 p1),.d (.sl 62 p2),.d (.int .i64 p3),.d (.int .i64 p4)]=>fun K=>z9z_L4 g n p1 p2 p3 p4 (fun z0 z1=>K .ret (mkSt 78 2 [(0,.d (.sl 62 z0)),(2,.d (.int .i64 z1))] [])) (fun z0=>K (.exit 0) (mkSt 78 2 [(0,.d (.sl 62 z0))] [])) | _=>fun _=>none
def ylIy:SSt:=mkSh 78 2 [(0,.sl 62),(65,.sl 62),(66,.int .i64),(67,.int .i64)] []
def yfay (g:C_z9z) (n:Nat):LPT A:=fun ps=>match ps with | [.d (.sl 62 p1),.d (.sl 62 p2),.d (.int .i64 p3),.d (.int .i64 p4)]=>fun K=>z9z_L14 g n p1 p2 p3 p4 (fun z0=>K .ret (mkSt 78 2 [(2,.d (.int .i64 z0))] [])) (K (.exit 3) (mkSt 78 2 [] [])) | _=>fun _=>none
noncomputable def ys5y:Code:=(Tryz.f41.body).getD .skip
noncomputable def E_z9z (g:C_z9z):Env A:=mkE [(42,ybWy g.z45z),(80,ya2y g.kit_IsKey),(81,yoSy g.z29z)] [(4,[0]),(6,[1])] [(4,⟨[0,10,11,12],[],[],[],[],[],[]⟩),(14,⟨[0,65,66,67],[],[],[],[],[],[]⟩)] [(4,⟨[0,2],[],[],[],[],[],[]⟩),(14,⟨[2],[],[],[],[],[],[]⟩)] [(4,yafy ynxy (yg2y g g.N)),(14,yafy ylIy (yfay g g.N))] [] [] [] [] []
theorem yFhy [Fuel]:yahy (E_z9z I_z9z).C:=ct_of (P:=Tryz.prog) (T:=T) (.cons ybZy (.cons yaKy (.cons yBNy .nil))) (by kernel_rfl)
noncomputable def yuyy:Code:=sub [1,1,0,1,0,0] ys5y
theorem yGay (g:C_z9z) (n:Nat):yaky (E_z9z g) g.N yuyy ynxy (yg2y g) n:=by intro ps; unfold yg2y; split; exact .inr fun R K=>(by kernel_rfl); exact .inl fun R K=>rfl
theorem yFLy [Fuel]:yacy (E_z9z I_z9z) NN yuyy:=yaey ynxy (yg2y I_z9z) (by kernel_rfl) yFhy (cuts0 (fun _=>rfl) (by kernel_rfl)) (fun ps R K=>by unfold yg2y; split <;> (try unfold z9z_L4) <;> rfl) (yGay I_z9z)
noncomputable def ysxy:Code:=sub [1,1,1,0,1,0,0] ys5y
theorem yFfy (g:C_z9z) (n:Nat):yaky (E_z9z g) g.N ysxy ylIy (yfay g) n:=by intro ps; unfold yfay; split; exact .inr fun R K=>(by kernel_rfl); exact .inl fun R K=>rfl
theorem yC0y [Fuel]:yacy (E_z9z I_z9z) NN ysxy:=yaey ylIy (yfay I_z9z) (by kernel_rfl) yFhy (cuts0 (fun _=>rfl) (by kernel_rfl)) (fun ps R K=>by unfold yfay; split <;> (try unfold z9z_L14) <;> rfl) (yFfy I_z9z)
theorem yNTy (g:C_z9z):Same (ym8y (@z9z_ g)) (abody (E_z9z g) Tryz.f41 ys5y 2 [] [.asis] g.N):=by intro args; unfold ym8y; split; exact .inr fun R k=>(by kernel_rfl); exact .inl fun R k=>rfl
theorem yD5y [Fuel]:Ok 41 (ym8y (@z9z _)):=yaay std (.cons ybZy (.cons yaKy (.cons yBNy .nil))) ⟨rfl,rfl,by kernel_rfl,rfl,rfl,rfl⟩ (yNTy I_z9z) (cutsL (fun _=>rfl) (.cons yFLy (.cons yC0y .nil)) (by kernel_rfl)) Tryz.func41 (by kernel_rfl) (by kernel_rfl)
abbrev yhpy:Type 1:=Int→{R:Type}→(Bool→Option R)→Option R
structure C_z62z where
 N:Nat
 z45z:ycHy
def z62z_ (g:C_z62z) (a1:Int) {R:Type} (k0:Bool→Option R):Option R :=
 (g.z45z a1 0 345686399999 (fun r2=>k0 (!r2)))
noncomputable def yy7y [Fuel]:C_z62z:=⟨NN,@z45z _⟩
noncomputable def z62z [Fuel]:yhpy:=@z62z_ yy7y
def ydKy (g:yhpy):Spec A:=fun args=>match args with | [.d (.int .i64 a1)]=>fun k=>g a1 (fun z0=>k (.d (.bool z0)) [.undef]) | _=>fun _=>none
noncomputable def yLMy:Code:=(Tryz.f74.body).getD .skip
noncomputable def yNry (g:C_z62z):Env A:=mkE [(42,ybWy g.z45z)] [] [] [] [] [] [] [] [] []
theorem yL4y (g:C_z62z):Same (ydKy (@z62z_ g)) (abody (yNry g) Tryz.f74 yLMy 0 [] [.asis] g.N):=by intro args; unfold ydKy; split; exact .inr fun R k=>(by kernel_rfl); exact .inl fun R k=>rfl
theorem ygdy [Fuel]:Ok 74 (ydKy (@z62z _)):=yaay std (.cons ybZy .nil) ⟨rfl,rfl,by kernel_rfl,rfl,rfl,rfl⟩ (yL4y yy7y) (cuts0 (fun _=>rfl) (by kernel_rfl)) Tryz.func74 (by kernel_rfl) (by kernel_rfl)
abbrev ytfy:Type 1:=Int→{R:Type}→(Bool→Option R)→Option R
def z107z_ (g:Nat) (a1:Int) {R:Type} (k0:Bool→Option R):Option R :=
 (bif (decide (a1 ≥ 97)) then k0 (decide (a1≤122)) else k0 false)
noncomputable def z107z [Fuel]:ytfy:=@z107z_ NN
def yl3y (g:ytfy):Spec A:=fun args=>match args with | [.d (.int .u8 a1)]=>fun k=>g a1 (fun z0=>k (.d (.bool z0)) [.undef]) | _=>fun _=>none
noncomputable def yGsy:Code:=(Tryz.f199.body).getD .skip
noncomputable def yJ0y (g:Nat):Env A:=mkE [] [] [] [] [] [] [] [] [] []
theorem yHQy (g:Nat):Same (yl3y (@z107z_ g)) (abody (yJ0y g) Tryz.f199 yGsy 0 [] [.asis] g):=by intro args; unfold yl3y; split; exact .inr fun R k=>(by kernel_rfl); exact .inl fun R k=>rfl
theorem yxsy [Fuel]:Ok 199 (yl3y (@z107z _)):=yaay std .nil ⟨rfl,rfl,by kernel_rfl,rfl,rfl,rfl⟩ (yHQy NN) (cuts0 (fun _=>rfl) (by kernel_rfl)) Tryz.func199 (by kernel_rfl) (by kernel_rfl)
abbrev yn4y:Type 1:=Int→{R:Type}→(Bool→Option R)→Option R
def z101z_ (g:Nat) (a1:Int) {R:Type} (k0:Bool→Option R):Option R :=
 (bif (decide (a1 ≥ 48)) then k0 (decide (a1≤57)) else k0 false)
noncomputable def z101z [Fuel]:yn4y:=@z101z_ NN
def yizy (g:yn4y):Spec A:=fun args=>match args with | [.d (.int .u8 a1)]=>fun k=>g a1 (fun z0=>k (.d (.bool z0)) [.undef]) | _=>fun _=>none
noncomputable def yIxy:Code:=(Tryz.f167.body).getD .skip
noncomputable def yJ7y (g:Nat):Env A:=mkE [] [] [] [] [] [] [] [] [] []
theorem yHLy (g:Nat):Same (yizy (@z101z_ g)) (abody (yJ7y g) Tryz.f167 yIxy 0 [] [.asis] g):=by intro args; unfold yizy; split; exact .inr fun R k=>(by kernel_rfl); exact .inl fun R k=>rfl
theorem yqfy [Fuel]:Ok 167 (yizy (@z101z _)):=yaay std .nil ⟨rfl,rfl,by kernel_rfl,rfl,rfl,rfl⟩ (yHLy NN) (cuts0 (fun _=>rfl) (by kernel_rfl)) Tryz.func167 (by kernel_rfl) (by kernel_rfl)
abbrev yqQy:Type 1:=List UInt8→{R:Type}→(Int→Bool→Option R)→Option R
structure C_z63z where
 N:Nat
 z101z:yn4y
 z107z:ytfy
def z63z_L2 (g:C_z63z):Nat→List UInt8→Int→Int→Int→{R:Type}→(Int→Bool→Option R)→(Int→Option R)→Option R
 | 0,_,_,_,_,_,_,_=>none
 | n + 1,v2,v3,v4,v5,_,e0,e1=>(bif (decide (v5 < v4)) then (get_ v2 v5 fun x10=>(g.z107z (x10.toNat:Int) (fun r11=>(bif r11 then z63z_L2 g n v2 (w64 (v3 + 1)) v4 (w64 (v5 + 1)) e0 e1 else (get_ v2 v5 fun x12=>(g.z101z (x12.toNat:Int) (fun r13=>(bif (!r13) then e0 0 false else z63z_L2 g n v2 v3 v4 (w64 (v5 + 1)) e0 e1)))))))) else e1 v3)
def z63z_ (g:C_z63z) (a1:List UInt8) {R:Type} (k0:Int→Bool→Option R):Option R :=
 (z63z_L2 g g.N a1 0 (a1.length:Int) 0 (fun e14 e15=>k0 e14 e15) (fun e16=>k0 e16 true))
noncomputable def yjHy [Fuel]:C_z63z:=⟨NN,@z101z _,@z107z _⟩
noncomputable def z63z [Fuel]:yqQy:=@z63z_ yjHy
def yj8y (g:yqQy):Spec A:=fun args=>match args with | [.d (.str a1)]=>fun k=>g a1 (fun z0 z1=>k (.tup [.d (.int .i64 z0),.d (.bool z1)]) [.undef]) | _=>fun _=>none
def yk5y:SSt:=mkSh 25 0 [(0,.str),(2,.int .i64),(6,.int .i64),(7,.int .i64)] []
def yfxy (g:C_z63z) (n:Nat):LPT A:=fun ps=>match ps with | [.d (.str p1),.d (.int .i64 p2),.d (.int .i64 p3),.d (.int .i64 p4)]=>fun K=>z63z_L2 g n p1 p2 p3 p4 (fun z0 z1=>K .ret (mkSt 25 0 [(2,.d (.int .i64 z0)),(3,.d (.bool z1))] [])) (fun z0=>K (.exit 0) (mkSt 25 0 [(2,.d (.int .i64 z0))] [])) | _=>fun _=>none
noncomputable def yyay:Code:=(Tryz.f166.body).getD .skip
noncomputable def yrAy (g:C_z63z):Env A:=mkE [(167,yizy g.z101z),(199,yl3y g.z107z)] [] [(2,⟨[0,2,6,7],[],[],[],[],[],[]⟩)] [(2,⟨[2,3],[],[],[],[],[],[]⟩)] [(2,yafy yk5y (yfxy g g.N))] [] [] [] [] []
theorem yJ5y [Fuel]:yahy (yrAy yjHy).C:=ct_of (P:=Tryz.prog) (T:=T) (.cons yqfy (.cons yxsy .nil)) (by kernel_rfl)
noncomputable def ysty:Code:=sub [1,0,1,0,0] yyay
theorem yF1y (g:C_z63z) (n:Nat):yaky (yrAy g) g.N ysty yk5y (yfxy g) n:=by intro ps; unfold yfxy; split; exact .inr fun R K=>(by kernel_rfl); exact .inl fun R K=>rfl
theorem yDuy [Fuel]:yacy (yrAy yjHy) NN ysty:=yaey yk5y (yfxy yjHy) (by kernel_rfl) yJ5y (cuts0 (fun _=>rfl) (by kernel_rfl)) (fun ps R K=>by unfold yfxy; split <;> (try unfold z63z_L2) <;> rfl) (yF1y yjHy)
theorem yI5y (g:C_z63z):Same (yj8y (@z63z_ g)) (abody (yrAy g) Tryz.f166 yyay 0 [] [.asis,.asis] g.N):=by intro args; unfold yj8y; split; exact .inr fun R k=>(by kernel_rfl); exact .inl fun R k=>rfl
theorem yAOy [Fuel]:Ok 166 (yj8y (@z63z _)):=yaay std (.cons yqfy (.cons yxsy .nil)) ⟨rfl,rfl,by kernel_rfl,rfl,rfl,rfl⟩ (yI5y yjHy) (cutsL (fun _=>rfl) (.cons yDuy .nil) (by kernel_rfl)) Tryz.func166 (by kernel_rfl) (by kernel_rfl)
abbrev yhXy:Type 1:=List UInt8→{R:Type}→(Int→Bool→Option R)→Option R
structure C_call_split where
 N:Nat
 z63z:yqQy
 z16z:yrny
def ypAy (g:C_call_split) (a1:List UInt8) {R:Type} (k0:Int→Bool→Option R):Option R :=
 (g.z63z a1 (fun r2 r3=>(bif (!r3) then k0 0 false else (bif (decide ((a1.length:Int) > 10)) then k0 0 false else (g.z16z a1 [48,49,50,51,52,53,54,55,56,57] (fun r4=>(bif (decide (r4 < 1)) then k0 0 false else (bif (decide (r4 > 3)) then k0 0 false else (bif (decide ((w64 ((w64 ((a1.length:Int) - r4)) - 1)) < 1)) then k0 0 false else (bif (decide ((w64 ((w64 ((a1.length:Int) - r4)) - 1)) > 4)) then k0 0 false else (bif (decide (0≤r4) && decide (r4≤(a1.length:Int))) then (g.z63z (a1.take (r4:Int).toNat) (fun r5 r6=>k0 r4 (decide (r5 > 0)))) else none)))))))))))
noncomputable def ymHy [Fuel]:C_call_split:=⟨NN,@z63z _,@z16z _⟩
noncomputable def call_split [Fuel]:yhXy:=@ypAy ymHy
def yesy (g:yhXy):Spec A:=fun args=>match args with | [.d (.str a1)]=>fun k=>g a1 (fun z0 z1=>k (.tup [.d (.int .i64 z0),.d (.bool z1)]) [.undef]) | _=>fun _=>none
noncomputable def yGvy:Code:=(Tryz.f164.body).getD .skip
noncomputable def yxay (g:C_call_split):Env A:=mkE [(166,yj8y g.z63z),(191,ykey g.z16z)] [] [] [] [] [] [] [] [] []
theorem yvey (g:C_call_split):Same (yesy (@ypAy g)) (abody (yxay g) Tryz.f164 yGvy 0 [] [.asis,.asis] g.N):=by intro args; unfold yesy; split; exact .inr fun R k=>(by kernel_rfl); exact .inl fun R k=>rfl
theorem yvmy [Fuel]:Ok 164 (yesy (@call_split _)):=yaay std (.cons yAOy (.cons yAHy .nil)) ⟨rfl,rfl,by kernel_rfl,rfl,rfl,rfl⟩ (yvey ymHy) (cuts0 (fun _=>rfl) (by kernel_rfl)) Tryz.func164 (by kernel_rfl) (by kernel_rfl)
abbrev yiby:Type 1:=List UInt8→{R:Type}→(G_Parts→Bool→Option R)→Option R
structure C_call_based where
 N:Nat
 call_split:yhXy
def ypyy (g:C_call_based) (a1:List UInt8) {R:Type} (k0:G_Parts→Bool→Option R):Option R :=
 (g.call_split a1 (fun r2 r3=>(bif (!r3) then k0 (⟨[],[],[],0,[]⟩:G_Parts) false else (bif (decide (0≤(w64 (r2 + 1))) && decide ((w64 (r2 + 1))≤(a1.length:Int))) then (bif (decide (0≤(w64 (r2 + 1))) && decide ((w64 (r2 + 1))≤(a1.length:Int))) then k0 (⟨a1,(a1.take ((w64 (r2 + 1)):Int).toNat),(a1.drop ((w64 (r2 + 1)):Int).toNat),0,[]⟩:G_Parts) true else none) else none))))
noncomputable def ymZy [Fuel]:C_call_based:=⟨NN,@call_split _⟩
noncomputable def call_based [Fuel]:yiby:=@ypyy ymZy
def yeky (g:yiby):Spec A:=fun args=>match args with | [.d (.str a1)]=>fun k=>g a1 (fun z0 z1=>k (.tup [.agg [.d (.str z0.f_Base),.d (.str z0.f_Prefix),.d (.str z0.f_Suffix),.d (.int .i64 z0.f_Kind),.d (.str z0.f_Added)],.d (.bool z1)]) [.undef]) | _=>fun _=>none
noncomputable def yGGy:Code:=(Tryz.f123.body).getD .skip
noncomputable def yxXy (g:C_call_based):Env A:=mkE [(164,yesy g.call_split)] [(2,[0])] [] [] [] [] [] [] [] []
theorem yvvy (g:C_call_based):Same (yeky (@ypyy g)) (abody (yxXy g) Tryz.f123 yGGy 1 [] [.asis,.asis] g.N):=by intro args; unfold yeky; split; exact .inr fun R k=>(by kernel_rfl); exact .inl fun R k=>rfl
theorem yvwy [Fuel]:Ok 123 (yeky (@call_based _)):=yaay std (.cons yvmy .nil) ⟨rfl,rfl,by kernel_rfl,rfl,rfl,rfl⟩ (yvvy ymZy) (cuts0 (fun _=>rfl) (by kernel_rfl)) Tryz.func123 (by kernel_rfl) (by kernel_rfl)
abbrev ysey:Type 1:=List UInt8→{R:Type}→(Bool→Option R)→Option R
structure C_z93z where
 N:Nat
 z63z:yqQy
def z93z_ (g:C_z93z) (a1:List UInt8) {R:Type} (k0:Bool→Option R):Option R :=
 (g.z63z a1 (fun r2 r3=>(bif r3 then (bif (decide (r2 > 0)) then k0 (decide ((a1.length:Int)≤4)) else k0 false) else k0 false)))
noncomputable def yEjy [Fuel]:C_z93z:=⟨NN,@z63z _⟩
noncomputable def z93z [Fuel]:ysey:=@z93z_ yEjy
def ykiy (g:ysey):Spec A:=fun args=>match args with | [.d (.str a1)]=>fun k=>g a1 (fun z0=>k (.d (.bool z0)) [.undef]) | _=>fun _=>none
noncomputable def yGdy:Code:=(Tryz.f125.body).getD .skip
noncomputable def yNZy (g:C_z93z):Env A:=mkE [(166,yj8y g.z63z)] [] [] [] [] [] [] [] [] []
theorem yJNy (g:C_z93z):Same (ykiy (@z93z_ g)) (abody (yNZy g) Tryz.f125 yGdy 0 [] [.asis] g.N):=by intro args; unfold ykiy; split; exact .inr fun R k=>(by kernel_rfl); exact .inl fun R k=>rfl
theorem yAty [Fuel]:Ok 125 (ykiy (@z93z _)):=yaay std (.cons yAOy .nil) ⟨rfl,rfl,by kernel_rfl,rfl,rfl,rfl⟩ (yJNy yEjy) (cuts0 (fun _=>rfl) (by kernel_rfl)) Tryz.func125 (by kernel_rfl) (by kernel_rfl)
abbrev yjny:Type 1:=List UInt8→{R:Type}→(Int→List UInt8→Bool→Option R)→Option R
structure C_call_tail where
 N:Nat
 z93z:ysey
 z101z:yn4y
def yr4y (g:C_call_tail) (a1:List UInt8) {R:Type} (k0:Int→List UInt8→Bool→Option R):Option R :=
 (bif (a1 == [112]) then k0 3 [] true else (bif (a1 == [109]) then k0 4 [] true else (bif (a1 == [109,109]) then k0 5 [] true else (bif (a1 == [97,109]) then k0 6 [] true else (bif ((a1.length:Int) == 1) then (at_ a1 0 fun x2=>(g.z101z (x2.toNat:Int) (fun r3=>(bif r3 then k0 2 a1 true else (g.z93z a1 (fun r4=>k0 1 a1 r4)))))) else (g.z93z a1 (fun r5=>k0 1 a1 r5)))))))
noncomputable def ypFy [Fuel]:C_call_tail:=⟨NN,@z93z _,@z101z _⟩
noncomputable def call_tail [Fuel]:yjny:=@yr4y ypFy
def yfyy (g:yjny):Spec A:=fun args=>match args with | [.d (.str a1)]=>fun k=>g a1 (fun z0 z1 z2=>k (.tup [.d (.int .i64 z0),.d (.str z1),.d (.bool z2)]) [.undef]) | _=>fun _=>none
noncomputable def yHly:Code:=(Tryz.f126.body).getD .skip
noncomputable def yzpy (g:C_call_tail):Env A:=mkE [(125,ykiy g.z93z),(167,yizy g.z101z)] [] [] [] [] [] [] [] [] []
theorem yyfy (g:C_call_tail):Same (yfyy (@yr4y g)) (abody (yzpy g) Tryz.f126 yHly 0 [] [.asis,.asis,.asis] g.N):=by intro args; unfold yfyy; split; exact .inr fun R k=>(by kernel_rfl); exact .inl fun R k=>rfl
theorem yzky [Fuel]:Ok 126 (yfyy (@call_tail _)):=yaay std (.cons yAty (.cons yqfy .nil)) ⟨rfl,rfl,by kernel_rfl,rfl,rfl,rfl⟩ (yyfy ypFy) (cuts0 (fun _=>rfl) (by kernel_rfl)) Tryz.func126 (by kernel_rfl) (by kernel_rfl)
abbrev yfAy:Type 1:=List UInt8→{R:Type}→(G_Parts→Bool→Option R)→Option R
structure C_call_Parts where
 N:Nat
 call_based:yiby
 z98z:yr0y
 z93z:ysey
 call_tail:yjny
def ypky (g:C_call_Parts) (a1:List UInt8) {R:Type} (k0:G_Parts→Bool→Option R):Option R :=
 (bif (decide ((a1.length:Int) > 14)) then k0 (⟨[],[],[],0,[]⟩:G_Parts) false else (g.call_based a1 (fun r2 r3=>(bif r3 then k0 r2 true else (g.z98z a1 [47] (fun r4 r5 r6=>(bif (!r6) then k0 (⟨[],[],[],0,[]⟩:G_Parts) false else (g.call_based r5 (fun r7 r8=>(bif r8 then (g.z93z r4 (fun r9=>(bif r9 then k0 (⟨r7.f_Base,r7.f_Prefix,r7.f_Suffix,1,r4⟩:G_Parts) true else (g.call_based r4 (fun r10 r11=>(g.call_tail r5 (fun r12 r13 r14=>(bif (!r11) then k0 (⟨[],[],[],0,[]⟩:G_Parts) false else (bif (!r14) then k0 (⟨[],[],[],0,[]⟩:G_Parts) false else k0 (⟨r10.f_Base,r10.f_Prefix,r10.f_Suffix,r12,r13⟩:G_Parts) true))))))))) else (g.call_based r4 (fun r15 r16=>(g.call_tail r5 (fun r17 r18 r19=>(bif (!r16) then k0 (⟨[],[],[],0,[]⟩:G_Parts) false else (bif (!r19) then k0 (⟨[],[],[],0,[]⟩:G_Parts) false else k0 (⟨r15.f_Base,r15.f_Prefix,r15.f_Suffix,r17,r18⟩:G_Parts) true))))))))))))))))
noncomputable def yney [Fuel]:C_call_Parts:=⟨NN,@call_based _,@z98z _,@z93z _,@call_tail _⟩
noncomputable def call_Parts [Fuel]:yfAy:=@ypky yney
def yc7y (g:yfAy):Spec A:=fun args=>match args with | [.d (.str a1)]=>fun k=>g a1 (fun z0 z1=>k (.tup [.agg [.d (.str z0.f_Base),.d (.str z0.f_Prefix),.d (.str z0.f_Suffix),.d (.int .i64 z0.f_Kind),.d (.str z0.f_Added)],.d (.bool z1)]) [.undef]) | _=>fun _=>none
noncomputable def yJJy:Code:=(Tryz.f75.body).getD .skip
noncomputable def yyny (g:C_call_Parts):Env A:=mkE [(123,yeky g.call_based),(124,ykay g.z98z),(125,ykiy g.z93z),(126,yfyy g.call_tail)] [(2,[0]),(4,[1]),(9,[2]),(11,[3])] [] [] [] [] [] [] [] []
theorem yvby (g:C_call_Parts):Same (yc7y (@ypky g)) (abody (yyny g) Tryz.f75 yJJy 4 [] [.asis,.asis] g.N):=by intro args; unfold yc7y; split; exact .inr fun R k=>(by kernel_rfl); exact .inl fun R k=>rfl
theorem ymqy [Fuel]:Ok 75 (yc7y (@call_Parts _)):=yaay std (.cons yvwy (.cons yBmy (.cons yAty (.cons yzky .nil)))) ⟨rfl,rfl,by kernel_rfl,rfl,rfl,rfl⟩ (yvby yney) (cuts0 (fun _=>rfl) (by kernel_rfl)) Tryz.func75 (by kernel_rfl) (by kernel_rfl)
abbrev yhfy:Type 1:=List UInt8→{R:Type}→(Bool→Option R)→Option R
structure C_call_Is where
 N:Nat
 call_Parts:yfAy
def yvXy (g:C_call_Is) (a1:List UInt8) {R:Type} (k0:Bool→Option R):Option R :=
 (g.call_Parts a1 (fun r2 r3=>k0 r3))
noncomputable def yuRy [Fuel]:C_call_Is:=⟨NN,@call_Parts _⟩
noncomputable def call_Is [Fuel]:yhfy:=@yvXy yuRy
def ydPy (g:yhfy):Spec A:=fun args=>match args with | [.d (.str a1)]=>fun k=>g a1 (fun z0=>k (.d (.bool z0)) [.undef]) | _=>fun _=>none
noncomputable def yHWy:Code:=(Tryz.f118.body).getD .skip
noncomputable def yFsy (g:C_call_Is):Env A:=mkE [(75,yc7y g.call_Parts)] [(3,[0])] [] [] [] [] [] [] [] []
theorem yC3y (g:C_call_Is):Same (ydPy (@yvXy g)) (abody (yFsy g) Tryz.f118 yHWy 1 [] [.asis] g.N):=by intro args; unfold ydPy; split; exact .inr fun R k=>(by kernel_rfl); exact .inl fun R k=>rfl
theorem ydFy [Fuel]:Ok 118 (ydPy (@call_Is _)):=yaay std (.cons ymqy .nil) ⟨rfl,rfl,by kernel_rfl,rfl,rfl,rfl⟩ (yC3y yuRy) (cuts0 (fun _=>rfl) (by kernel_rfl)) Tryz.func118 (by kernel_rfl) (by kernel_rfl)
abbrev ybay:Type 1:=List UInt8→List UInt8→{R:Type}→(Int→Option R)→Option R
def strings_Compare [Fuel]:ybay:=@X_cmp
def yaGy (g:ybay):Spec A:=ykly g
theorem ybiy [Fuel]:Ok 116 (yaGy (@strings_Compare _)):=⟨ymay (ytWy (Any.strings_Compare Tryz.lays106)),ypqy,yaOy (fn:=Tryz.f116) Tryz.func116 (by kernel_rfl) (by kernel_rfl)⟩
theorem yf5y [Fuel]:OkD 116 (yaGy (@strings_Compare _)):=⟨ymay (ytWy (Any.strings_Compare Tryz.lays106)),ypqy,yaOy (fn:=Tryz.f116) Tryz.func116 (by kernel_rfl) (by kernel_rfl)⟩
abbrev yhay:Type 1:=List Int→{R:Type}→(Int→Option R)→Option R
def z35z_L3 (g:Nat):Nat→Int→List Int→Int→Int→{R:Type}→(Int→Int→Option R)→(Int→Option R)→Option R
 | 0,_,_,_,_,_,_,_=>none
 | n + 1,v2,v3,v4,v5,_,e0,e1=>(bif (decide (v5 < v4)) then (get_ v3 v5 fun x7=>(bif (x7 != v2) then e0 x7 v2 else z35z_L3 g n v2 v3 v4 (w64 (v5 + 1)) e0 e1)) else e1 v2)
def z35z_ (g:Nat) (a1:List Int) {R:Type} (k0:Int→Option R):Option R :=
 (z35z_L3 g g 0 a1 (a1.length:Int) 0 (fun e8 e9=>k0 e8) (fun e10=>k0 e10))
noncomputable def z35z [Fuel]:yhay:=@z35z_ NN
def ybVy (g:yhay):Spec A:=fun args=>match args with | [.d (.sl 3 a1)]=>fun k=>g a1 (fun z0=>k (.d (.int .i64 z0)) [.undef]) | _=>fun _=>none
def ydSy:SSt:=mkSh 18 0 [(3,.int .i64),(6,.sl 3),(7,.int .i64),(8,.int .i64)] []
def ybPy (g:Nat) (n:Nat):LPT A:=fun ps=>match ps with | [.d (.int .i64 p1),.d (.sl 3 p2),.d (.int .i64 p3),.d (.int .i64 p4)]=>fun K=>z35z_L3 g n p1 p2 p3 p4 (fun z0 z1=>K .ret (mkSt 18 0 [(2,.d (.int .i64 z0)),(3,.d (.int .i64 z1))] [])) (fun z0=>K (.exit 0) (mkSt 18 0 [(3,.d (.int .i64 z0))] [])) | _=>fun _=>none
noncomputable def yp6y:Code:=(Tryz.f121.body).getD .skip
noncomputable def yr6y (g:Nat):Env A:=mkE [] [] [(3,⟨[3,6,7,8],[],[],[],[],[],[]⟩)] [(3,⟨[2,3],[],[],[],[],[],[]⟩)] [(3,yafy ydSy (ybPy g g))] [] [] [] [] []
theorem yJiy [Fuel]:yahy (yr6y NN).C:=ct_of (P:=Tryz.prog) (T:=T) .nil (by kernel_rfl)
noncomputable def yhLy:Code:=sub [1,1,0,1,0,0] yp6y
theorem yEmy (g:Nat) (n:Nat):yaky (yr6y g) g yhLy ydSy (ybPy g) n:=by intro ps; unfold ybPy; split; exact .inr fun R K=>(by kernel_rfl); exact .inl fun R K=>rfl
theorem yCGy [Fuel]:yacy (yr6y NN) NN yhLy:=yaey ydSy (ybPy NN) (by kernel_rfl) yJiy (cuts0 (fun _=>rfl) (by kernel_rfl)) (fun ps R K=>by unfold ybPy; split <;> (try unfold z35z_L3) <;> rfl) (yEmy NN)
theorem yMwy (g:Nat):Same (ybVy (@z35z_ g)) (abody (yr6y g) Tryz.f121 yp6y 0 [] [.asis] g):=by intro args; unfold ybVy; split; exact .inr fun R k=>(by kernel_rfl); exact .inl fun R k=>rfl
theorem ygcy [Fuel]:Ok 121 (ybVy (@z35z _)):=yaay std .nil ⟨rfl,rfl,by kernel_rfl,rfl,rfl,rfl⟩ (yMwy NN) (cutsL (fun _=>rfl) (.cons yCGy .nil) (by kernel_rfl)) Tryz.func121 (by kernel_rfl) (by kernel_rfl)
noncomputable def yoxy (g:Nat):Env A:=mkED [] [] [(3,⟨[3,6,7,8],[],[],[],[],[],[]⟩)] [(3,⟨[2,3],[],[],[],[],[],[]⟩)] [(3,yafy ydSy (ybPy g g))] [] [] [] [] []
theorem yHdy [Fuel]:yahy (yoxy NN).C:=ct_of (P:=Tryz.prog) (T:=TD) .nil (by kernel_rfl)
theorem yDwy (g:Nat) (n:Nat):yaky (yoxy g) g yhLy ydSy (ybPy g) n:=by intro ps; unfold ybPy; split; exact .inr fun R K=>(by kernel_rfl); exact .inl fun R K=>rfl
theorem yzCy [Fuel]:yacy (yoxy NN) NN yhLy:=yaey ydSy (ybPy NN) (by kernel_rfl) yHdy (cuts0 (fun _=>rfl) (by kernel_rfl)) (fun ps R K=>by unfold ybPy; split <;> (try unfold z35z_L3) <;> rfl) (yDwy NN)
theorem yHKy (g:Nat):Same (ybVy (@z35z_ g)) (abody (yoxy g) Tryz.f121 yp6y 0 [] [.asis] g):=by intro args; unfold ybVy; split; exact .inr fun R k=>(by kernel_rfl); exact .inl fun R k=>rfl
theorem yxQy [Fuel]:OkD 121 (ybVy (@z35z _)):=yaay stdD .nil ⟨rfl,rfl,by kernel_rfl,rfl,rfl,rfl⟩ (yHKy NN) (cutsL (fun _=>rfl) (.cons yzCy .nil) (by kernel_rfl)) Tryz.func121 (by kernel_rfl) (by kernel_rfl)
end Go.Am
