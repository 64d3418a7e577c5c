/- The functions of the program as Lean functions, each shown to be what the code computes, part 9. No condition: lemmas for the claim. -/
import Derived.Test.YtkcbebmbmffkjaaGreatDoorF0
import Derived.Test.YtkcbebmbmffkjaaGreatDoorFSh
import Derived.Test.YtkcbebmbmffkjaaGreatDoorF1
import Derived.Test.YtkcbebmbmffkjaaGreatDoorF3
import Derived.Test.YtkcbebmbmffkjaaGreatDoorF4
import Derived.Test.YtkcbebmbmffkjaaGreatDoorF5
import Derived.Test.YtkcbebmbmffkjaaGreatDoorF8
set_option linter.unusedVariables false
set_option maxRecDepth 100000
namespace Go.Am
open Go Go.Proofs
abbrev yroy:Type 1:=List UInt8→List UInt8→{R:Type}→(Bool→Option R)→Option R
structure C_Q_only where
 N:Nat
 strings_IndexByte:ycay
def yiVy (g:C_Q_only):Nat→List UInt8→List UInt8→Int→Int→{R:Type}→(Bool→Option R)→Option R→Option R
 | 0,_,_,_,_,_,_,_=>none
 | n + 1,v3,v4,v5,v6,_,e0,e1=>(bif (decide (v6 < v5)) then (get_ v3 v6 fun x9=>(g.strings_IndexByte v4 (x9.toNat:Int) (fun r10=>(bif (decide (r10 < 0)) then e0 false else yiVy g n v3 v4 v5 (w64 (v6 + 1)) e0 e1)))) else e1)
def yCLy (g:C_Q_only) (a1 a2:List UInt8) {R:Type} (k0:Bool→Option R):Option R :=
 (yiVy g g.N a1 a2 (a1.length:Int) 0 (fun e11=>k0 e11) (k0 true))
noncomputable def yguy [Fuel]:C_Q_only:=⟨NN,@strings_IndexByte _⟩
noncomputable def Q_only [Fuel]:yroy:=@yCLy yguy
def yi6y (g:yroy):Spec A:=fun args=>match args with | [.d (.str a1),.d (.str a2)]=>fun k=>g a1 a2 (fun z0=>k (.d (.bool z0)) [.undef,.undef]) | _=>fun _=>none
def yiyy:SSt:=mkSh 18 0 [(0,.str),(1,.str),(7,.int .i64),(8,.int .i64)] []
def ydGy (g:C_Q_only) (n:Nat):LPT A:=fun ps=>match ps with | [.d (.str p1),.d (.str p2),.d (.int .i64 p3),.d (.int .i64 p4)]=>fun K=>yiVy g n p1 p2 p3 p4 (fun z0=>K .ret (mkSt 18 0 [(4,.d (.bool z0))] [])) (K (.exit 0) (mkSt 18 0 [] [])) | _=>fun _=>none
noncomputable def yzoy:Code:=(Tryz.f106.body).getD .skip
noncomputable def yk6y (g:C_Q_only):Env A:=mkE [(143,yc2y g.strings_IndexByte)] [] [(2,⟨[0,1,7,8],[],[],[],[],[],[]⟩)] [(2,⟨[4],[],[],[],[],[],[]⟩)] [(2,yaey yiyy (ydGy g g.N))] [] [] [] [] []
theorem yGQy [Fuel]:yagy (yk6y yguy).C:=ct_of (P:=Tryz.prog) (T:=T) (.cons ycYy .nil) (by kernel_rfl)
noncomputable def ynfy:Code:=sub [1,0,1,0,0] yzoy
theorem yAUy (g:C_Q_only) (n:Nat):yahy (yk6y g) g.N ynfy yiyy (ydGy g) n:=by intro ps; unfold ydGy; split; exact .inr fun R K=>(by kernel_rfl); exact .inl fun R K=>rfl
theorem yyby [Fuel]:yacy (yk6y yguy) NN ynfy:=yaby yiyy (ydGy yguy) (by kernel_rfl) yGQy (cuts0 (fun _=>rfl) (by kernel_rfl)) (fun ps R K=>by unfold ydGy; split <;> (try unfold yiVy) <;> rfl) (yAUy yguy)
theorem yGvy (g:C_Q_only):Same (yi6y (@yCLy g)) (abody (yk6y g) Tryz.f106 yzoy 0 [] [.asis] g.N):=by intro args; unfold yi6y; split; exact .inr fun R k=>(by kernel_rfl); exact .inl fun R k=>rfl
theorem yEWy [Fuel]:Ok 106 (yi6y (@Q_only _)):=yaay std (.cons ycYy .nil) ⟨rfl,rfl,by kernel_rfl,rfl,rfl,rfl⟩ (yGvy yguy) (cutsL (fun _=>rfl) (.cons yyby .nil) (by kernel_rfl)) Tryz.func106 (by kernel_rfl) (by kernel_rfl)
abbrev yphy:Type 1:=List UInt8→{R:Type}→(Bool→Option R)→Option R
structure C_Q_Key where
 N:Nat
 Q_in:yg1y
 Q_only:yroy
def yFey (g:C_Q_Key) (a1:List UInt8) {R:Type} (k0:Bool→Option R):Option R :=
 (g.Q_in (a1.length:Int) 1 40 (fun r2=>(bif r2 then (bif (decide (0≤1) && decide (1≤(a1.length:Int))) then (g.Q_only (a1.take (1:Int).toNat) [97,98,99,100,101,102,103,104,105,106,107,108,109,110,111,112,113,114,115,116,117,118,119,120,121,122] (fun r3=>(bif r3 then (g.Q_only a1 [97,98,99,100,101,102,103,104,105,106,107,108,109,110,111,112,113,114,115,116,117,118,119,120,121,122,48,49,50,51,52,53,54,55,56,57,45,95] (fun r4=>k0 r4)) else k0 false))) else none) else k0 false)))
noncomputable def yCzy [Fuel]:C_Q_Key:=⟨NN,@Q_in _,@Q_only _⟩
noncomputable def Q_Key [Fuel]:yphy:=@yFey yCzy
def yixy (g:yphy):Spec A:=fun args=>match args with | [.d (.str a1)]=>fun k=>g a1 (fun z0=>k (.d (.bool z0)) [.undef]) | _=>fun _=>none
noncomputable def yL0y:Code:=(Tryz.f56.body).getD .skip
noncomputable def yN1y (g:C_Q_Key):Env A:=mkE [(57,ydTy g.Q_in),(106,yi6y g.Q_only)] [] [] [] [] [] [] [] [] []
theorem yIdy (g:C_Q_Key):Same (yixy (@yFey g)) (abody (yN1y g) Tryz.f56 yL0y 0 [] [.asis] g.N):=by intro args; unfold yixy; split; exact .inr fun R k=>(by kernel_rfl); exact .inl fun R k=>rfl
theorem yiey [Fuel]:Ok 56 (yixy (@Q_Key _)):=yaay std (.cons yeDy (.cons yEWy .nil)) ⟨rfl,rfl,by kernel_rfl,rfl,rfl,rfl⟩ (yIdy yCzy) (cuts0 (fun _=>rfl) (by kernel_rfl)) Tryz.func56 (by kernel_rfl) (by kernel_rfl)
abbrev yzAy:Type 1:=G_Band→List UInt8→{R:Type}→(Bool→List UInt8→Option R)→Option R
def z58z_ (g:Nat) (a1:G_Band) (a2:List UInt8) {R:Type} (k0:Bool→List UInt8→Option R):Option R :=
 k0 (a1.f_Key == a2) a2
noncomputable def z58z [Fuel]:yzAy:=@z58z_ NN
def yoWy (g:yzAy):Spec A:=fun args=>match args with | [.agg [.d (.str a1),.d (.int .i64 a2),.d (.int .i64 a3)],.box [.d (.str a4)]]=>fun k=>g ⟨a1,a2,a3⟩ a4 (fun z0 z1=>k (.d (.bool z0)) [.undef,.box [.d (.str z1)]]) | _=>fun _=>none
noncomputable def yJby:Code:=(Tryz.f108.body).getD .skip
noncomputable def yO8y (g:Nat):Env A:=mkE [] [(2,[1])] [] [] [] [] [] [] [] [1]
theorem yKEy (g:Nat):Same (yoWy (@z58z_ g)) (abody (yO8y g) Tryz.f108 yJby 2 [0] [.asis] g):=by intro args; unfold yoWy; split; exact .inr fun R k=>(by kernel_rfl); exact .inl fun R k=>rfl
theorem yChy [Fuel]:Ok 108 (yoWy (@z58z _)):=yaay std .nil ⟨rfl,rfl,by kernel_rfl,rfl,rfl,rfl⟩ (yKEy NN) (cuts0 (fun _=>rfl) (by kernel_rfl)) Tryz.func108 (by kernel_rfl) (by kernel_rfl)
abbrev yzly:Type 1:=List G_Band→List UInt8→{R:Type}→(Int→List UInt8→Option R)→Option R
structure C_z26z where
 N:Nat
 z58z:yzAy
def z26z_L2 (g:C_z26z):Nat→List G_Band→Int→Int→List UInt8→{R:Type}→(Int→List UInt8→Option R)→(List UInt8→Option R)→Option R
 | 0,_,_,_,_,_,_,_=>none
 | n + 1,v3,v4,v5,v6,_,e0,e1=>(bif (decide (v5 < v4)) then (get_ v3 v5 fun x10=>(g.z58z x10 v6 (fun r11 r12=>(bif r11 then e0 v5 r12 else z26z_L2 g n v3 v4 (w64 (v5 + 1)) r12 e0 e1)))) else e1 v6)
def z26z_ (g:C_z26z) (a1:List G_Band) (a2:List UInt8) {R:Type} (k0:Int→List UInt8→Option R):Option R :=
 (z26z_L2 g g.N a1 (a1.length:Int) 0 a2 (fun e13 e14=>k0 e13 e14) (fun e15=>k0 (-1) e15))
noncomputable def yihy [Fuel]:C_z26z:=⟨NN,@z58z _⟩
noncomputable def z26z [Fuel]:yzly:=@z26z_ yihy
def ypDy (g:yzly):Spec A:=fun args=>match args with | [.d (.sl 69 a1),.fn 108 [.box [.d (.str a2)]]]=>fun k=>g a1 a2 (fun z0 z1=>k (.d (.int .i64 z0)) [.undef,.fn 108 [.box [.d (.str z1)]]]) | _=>fun _=>none
def ylAy:SSt:=mkSh 19 1 [(0,.sl 69),(1,.fn 108 [.ptr 0 0]),(7,.int .i64),(8,.int .i64)] [(0,.box [.str])]
def yfPy (g:C_z26z) (n:Nat):LPT A:=fun ps=>match ps with | [.d (.sl 69 p1),.d (.int .i64 p2),.d (.int .i64 p3),.d (.str p4)]=>fun K=>z26z_L2 g n p1 p2 p3 p4 (fun z0 z1=>K .ret (mkSt 19 1 [(1,.fn 108 [.ptr 0 0]),(4,.d (.int .i64 z0))] [(0,some (.box [.d (.str z1)]))])) (fun z0=>K (.exit 0) (mkSt 19 1 [(1,.fn 108 [.ptr 0 0])] [(0,some (.box [.d (.str z0)]))])) | _=>fun _=>none
noncomputable def ys3y (g:C_z26z):Env A:=mkE [(108,yoWy g.z58z)] [] [(2,⟨[0,1,7,8],[],[0],[],[],[],[]⟩)] [(2,⟨[1,4],[],[0],[],[],[],[]⟩)] [(2,yaey ylAy (yfPy g g.N))] [] [] [] [] [1]
theorem yJTy [Fuel]:yagy (ys3y yihy).C:=ct_of (P:=Tryz.prog) (T:=T) (.cons yChy .nil) (by kernel_rfl)
noncomputable def ytby:Code:=sub [1,0,1,0,0] ygzy
theorem yFSy (g:C_z26z) (n:Nat):yahy (ys3y g) g.N ytby ylAy (yfPy g) n:=by intro ps; unfold yfPy; split; exact .inr fun R K=>(by kernel_rfl); exact .inl fun R K=>rfl
theorem yDZy [Fuel]:yacy (ys3y yihy) NN ytby:=yaby ylAy (yfPy yihy) (by kernel_rfl) yJTy (cuts0 (fun _=>rfl) (by kernel_rfl)) (fun ps R K=>by unfold yfPy; split <;> (try unfold z26z_L2) <;> rfl) (yFSy yihy)
theorem yJSy (g:C_z26z):Same (ypDy (@z26z_ g)) (abody (ys3y g) Tryz.f107 ygzy 1 [0] [.asis] g.N):=by intro args; unfold ypDy; split; exact .inr fun R k=>(by kernel_rfl); exact .inl fun R k=>rfl
theorem yL2y [Fuel]:Ok 107 (ypDy (@z26z _)):=yaay std (.cons yChy .nil) ⟨rfl,rfl,by kernel_rfl,rfl,rfl,rfl⟩ (yJSy yihy) (cutsL (fun _=>rfl) (.cons yDZy .nil) (by kernel_rfl)) Tryz.func107 (by kernel_rfl) (by kernel_rfl)
abbrev yyRy:Type 1:=List G_Band→List UInt8→{R:Type}→(Int→Option R)→Option R
structure C_z48z where
 N:Nat
 z26z:yzly
def z48z_ (g:C_z48z) (a1:List G_Band) (a2:List UInt8) {R:Type} (k0:Int→Option R):Option R :=
 (g.z26z a1 a2 (fun r3 r4=>k0 r3))
noncomputable def yypy [Fuel]:C_z48z:=⟨NN,@z26z _⟩
noncomputable def z48z [Fuel]:yyRy:=@z48z_ yypy
def yovy (g:yyRy):Spec A:=fun args=>match args with | [.d (.sl 69 a1),.d (.str a2)]=>fun k=>g a1 a2 (fun z0=>k (.d (.int .i64 z0)) [.undef,.undef]) | _=>fun _=>none
noncomputable def yOxy:Code:=(Tryz.f58.body).getD .skip
noncomputable def yO6y (g:C_z48z):Env A:=mkE [(107,ypDy g.z26z)] [(3,[0])] [] [] [] [] [] [] [(107,0)] []
theorem yK9y (g:C_z48z):Same (yovy (@z48z_ g)) (abody (yO6y g) Tryz.f58 yOxy 1 [] [.asis] g.N):=by intro args; unfold yovy; split; exact .inr fun R k=>(by kernel_rfl); exact .inl fun R k=>rfl
theorem yC5y [Fuel]:Ok 58 (yovy (@z48z _)):=yaay std (.cons yL2y .nil) ⟨rfl,rfl,by kernel_rfl,rfl,rfl,rfl⟩ (yK9y yypy) (cuts0 (fun _=>rfl) (by kernel_rfl)) Tryz.func58 (by kernel_rfl) (by kernel_rfl)
abbrev yxby:Type 1:=List G_Band→{R:Type}→(Int→Option R)→Option R
structure C_z47z where
 N:Nat
 Q_Key:yphy
 Q_in:yg1y
 z48z:yyRy
def z47z_L4 (g:C_z47z):Nat→List G_Band→List G_Band→Int→Int→{R:Type}→(List G_Band→Int→Option R)→(List G_Band→Option R)→Option R
 | 0,_,_,_,_,_,_,_=>none
 | n + 1,v2,v3,v4,v5,_,e0,e1=>(bif (decide (v5 < v4)) then (get_ v3 v5 fun x11=>(g.Q_Key x11.f_Key (fun r12=>(bif (!r12) then e0 v2 5 else (g.Q_in x11.f_Low 0 30000000000 (fun r13=>(bif (!r13) then e0 v2 1 else (g.Q_in x11.f_High (w64 (x11.f_Low + 1)) 30000000000 (fun r14=>(bif (!r14) then e0 v2 1 else (bif ((Int.tmod x11.f_Low 1000) != 0) then e0 v2 1 else (bif ((Int.tmod x11.f_High 1000) != 0) then e0 v2 1 else (bif (decide (v5 > 0)) then (get_ v2 (w64 (v5 - 1)) fun x15=>(bif (decide (x11.f_Low < x15.f_High)) then e0 v2 7 else z47z_L4 g n v2 v3 v4 (w64 (v5 + 1)) e0 e1)) else z47z_L4 g n v2 v3 v4 (w64 (v5 + 1)) e0 e1))))))))))))) else e1 v2)
def z47z_L14 (g:C_z47z):Nat→List G_Band→List G_Band→Int→Int→{R:Type}→(Int→Option R)→Option R→Option R
 | 0,_,_,_,_,_,_,_=>none
 | n + 1,v19,v20,v21,v22,_,e0,e1=>(bif (decide (v22 < v21)) then (get_ v20 v22 fun x25=>(bif (decide (0≤v22) && decide (v22≤(v19.length:Int))) then (g.z48z (v19.take (v22:Int).toNat) x25.f_Key (fun r26=>(bif (decide (r26 ≥ 0)) then e0 6 else z47z_L14 g n v19 v20 v21 (w64 (v22 + 1)) e0 e1))) else none)) else e1)
def z47z_ (g:C_z47z) (a1:List G_Band) {R:Type} (k0:Int→Option R):Option R :=
 (bif (decide ((a1.length:Int) > 30)) then k0 2 else (z47z_L4 g g.N a1 a1 (a1.length:Int) 0 (fun e16 e17=>k0 e17) (fun e18=>(z47z_L14 g g.N e18 e18 (e18.length:Int) 0 (fun e27=>k0 e27) (k0 0)))))
noncomputable def ybmy [Fuel]:C_z47z:=⟨NN,@Q_Key _,@Q_in _,@z48z _⟩
noncomputable def z47z [Fuel]:yxby:=@z47z_ ybmy
def ypdy (g:yxby):Spec A:=fun args=>match args with | [.d (.sl 69 a1)]=>fun k=>g a1 (fun z0=>k (.d (.int .i64 z0)) [.undef]) | _=>fun _=>none
def ylwy:SSt:=mkSh 78 2 [(0,.sl 69),(10,.sl 69),(11,.int .i64),(12,.int .i64)] []
def yeXy (g:C_z47z) (n:Nat):LPT A:=fun ps=>match ps with | [.d (.sl 69 p1),.d (.sl 69 p2),.d (.int .i64 p3),.d (.int .i64 p4)]=>fun K=>z47z_L4 g n p1 p2 p3 p4 (fun z0 z1=>K .ret (mkSt 78 2 [(0,.d (.sl 69 z0)),(2,.d (.int .i64 z1))] [])) (fun z0=>K (.exit 0) (mkSt 78 2 [(0,.d (.sl 69 z0))] [])) | _=>fun _=>none
def yjyy:SSt:=mkSh 78 2 [(0,.sl 69),(63,.sl 69),(64,.int .i64),(65,.int .i64)] []
def yeay (g:C_z47z) (n:Nat):LPT A:=fun ps=>match ps with | [.d (.sl 69 p1),.d (.sl 69 p2),.d (.int .i64 p3),.d (.int .i64 p4)]=>fun K=>z47z_L14 g n p1 p2 p3 p4 (fun z0=>K .ret (mkSt 78 2 [(2,.d (.int .i64 z0))] [])) (K (.exit 3) (mkSt 78 2 [] [])) | _=>fun _=>none
noncomputable def yt4y:Code:=(Tryz.f14.body).getD .skip
noncomputable def yj6y (g:C_z47z):Env A:=mkE [(56,yixy g.Q_Key),(57,ydTy g.Q_in),(58,yovy g.z48z)] [(4,[0]),(6,[1])] [(4,⟨[0,10,11,12],[],[],[],[],[],[]⟩),(14,⟨[0,63,64,65],[],[],[],[],[],[]⟩)] [(4,⟨[0,2],[],[],[],[],[],[]⟩),(14,⟨[2],[],[],[],[],[],[]⟩)] [(4,yaey ylwy (yeXy g g.N)),(14,yaey yjyy (yeay g g.N))] [] [] [] [] []
theorem yCGy [Fuel]:yagy (yj6y ybmy).C:=ct_of (P:=Tryz.prog) (T:=T) (.cons yiey (.cons yeDy (.cons yC5y .nil))) (by kernel_rfl)
noncomputable def ytqy:Code:=sub [1,1,0,1,0,0] yt4y
theorem yGLy (g:C_z47z) (n:Nat):yahy (yj6y g) g.N ytqy ylwy (yeXy g) n:=by intro ps; unfold yeXy; split; exact .inr fun R K=>(by kernel_rfl); exact .inl fun R K=>rfl
theorem yEjy [Fuel]:yacy (yj6y ybmy) NN ytqy:=yaby ylwy (yeXy ybmy) (by kernel_rfl) yCGy (cuts0 (fun _=>rfl) (by kernel_rfl)) (fun ps R K=>by unfold yeXy; split <;> (try unfold z47z_L4) <;> rfl) (yGLy ybmy)
noncomputable def yp8y:Code:=sub [1,1,1,0,1,0,0] yt4y
theorem yDzy (g:C_z47z) (n:Nat):yahy (yj6y g) g.N yp8y yjyy (yeay g) n:=by intro ps; unfold yeay; split; exact .inr fun R K=>(by kernel_rfl); exact .inl fun R K=>rfl
theorem yAWy [Fuel]:yacy (yj6y ybmy) NN yp8y:=yaby yjyy (yeay ybmy) (by kernel_rfl) yCGy (cuts0 (fun _=>rfl) (by kernel_rfl)) (fun ps R K=>by unfold yeay; split <;> (try unfold z47z_L14) <;> rfl) (yDzy ybmy)
theorem yL8y (g:C_z47z):Same (ypdy (@z47z_ g)) (abody (yj6y g) Tryz.f14 yt4y 2 [] [.asis] g.N):=by intro args; unfold ypdy; split; exact .inr fun R k=>(by kernel_rfl); exact .inl fun R k=>rfl
theorem yNly [Fuel]:Ok 14 (ypdy (@z47z _)):=yaay std (.cons yiey (.cons yeDy (.cons yC5y .nil))) ⟨rfl,rfl,by kernel_rfl,rfl,rfl,rfl⟩ (yL8y ybmy) (cutsL (fun _=>rfl) (.cons yEjy (.cons yAWy .nil)) (by kernel_rfl)) Tryz.func14 (by kernel_rfl) (by kernel_rfl)
abbrev ye0y:Type 1:=Int→{R:Type}→(Bool→Option R)→Option R
structure C_Q_Moment where
 N:Nat
 Q_in:yg1y
def yoiy (g:C_Q_Moment) (a1:Int) {R:Type} (k0:Bool→Option R):Option R :=
 (g.Q_in a1 0 345686399999 (fun r2=>k0 r2))
noncomputable def ylPy [Fuel]:C_Q_Moment:=⟨NN,@Q_in _⟩
noncomputable def Q_Moment [Fuel]:ye0y:=@yoiy ylPy
def ydry (g:ye0y):Spec A:=fun args=>match args with | [.d (.int .i64 a1)]=>fun k=>g a1 (fun z0=>k (.d (.bool z0)) [.undef]) | _=>fun _=>none
noncomputable def yM0y:Code:=(Tryz.f59.body).getD .skip
noncomputable def yEfy (g:C_Q_Moment):Env A:=mkE [(57,ydTy g.Q_in)] [] [] [] [] [] [] [] [] []
theorem yAty (g:C_Q_Moment):Same (ydry (@yoiy g)) (abody (yEfy g) Tryz.f59 yM0y 0 [] [.asis] g.N):=by intro args; unfold ydry; split; exact .inr fun R k=>(by kernel_rfl); exact .inl fun R k=>rfl
theorem ygPy [Fuel]:Ok 59 (ydry (@Q_Moment _)):=yaay std (.cons yeDy .nil) ⟨rfl,rfl,by kernel_rfl,rfl,rfl,rfl⟩ (yAty ylPy) (cuts0 (fun _=>rfl) (by kernel_rfl)) Tryz.func59 (by kernel_rfl) (by kernel_rfl)
abbrev ytvy:Type 1:=Int→Int→Int→{R:Type}→(Bool→Option R)→Option R
def R_in_ (g:Nat) (a1 a2 a3:Int) {R:Type} (k0:Bool→Option R):Option R :=
 (bif (decide (a2≤a1)) then k0 (decide (a1≤a3)) else k0 false)
noncomputable def R_in [Fuel]:ytvy:=@R_in_ NN
def ykky (g:ytvy):Spec A:=fun args=>match args with | [.d (.int .i64 a1),.d (.int .i64 a2),.d (.int .i64 a3)]=>fun k=>g a1 a2 a3 (fun z0=>k (.d (.bool z0)) [.undef,.undef,.undef]) | _=>fun _=>none
noncomputable def yINy:Code:=(Tryz.f182.body).getD .skip
noncomputable def yPly (g:Nat):Env A:=mkE [] [] [] [] [] [] [] [] [] []
theorem yMTy (g:Nat):Same (ykky (@R_in_ g)) (abody (yPly g) Tryz.f182 yINy 0 [] [.asis] g):=by intro args; unfold ykky; split; exact .inr fun R k=>(by kernel_rfl); exact .inl fun R k=>rfl
theorem yBPy [Fuel]:Ok 182 (ykky (@R_in _)):=yaay std .nil ⟨rfl,rfl,by kernel_rfl,rfl,rfl,rfl⟩ (yMTy NN) (cuts0 (fun _=>rfl) (by kernel_rfl)) Tryz.func182 (by kernel_rfl) (by kernel_rfl)
abbrev ybRy:Type 1:=List UInt8→List UInt8→{R:Type}→(Bool→Option R)→Option R
def strings_ContainsAny [Fuel]:ybRy:=@ysfy
def ycry (g:ybRy):Spec A:=yiuy g
theorem ydYy [Fuel]:Ok 183 (ycry (@strings_ContainsAny _)):=⟨yuPy (yD6y rfl (fun s cs w h1 h2 h3 h4=>Any.strings_ContainsAny_laid Tryz.lays150 (by kernel_rfl) s cs w h1 h2 h3 h4)),ywQy,ybMy (fn:=Tryz.f183) Tryz.func183 (by kernel_rfl) (by kernel_rfl)⟩
abbrev yjby:Type 1:=List UInt8→Int→Int→{R:Type}→(Bool→Option R)→Option R
structure C_R_plain where
 N:Nat
 strings_Trim:ydQy
 R_in:ytvy
 strings_ContainsAny:ybRy
def ywXy (g:C_R_plain) (a1:List UInt8) (a2 a3:Int) {R:Type} (k0:Bool→Option R):Option R :=
 (g.R_in (a1.length:Int) a2 a3 (fun r4=>(bif r4 then (g.strings_Trim a1 [97,98,99,100,101,102,103,104,105,106,107,108,109,110,111,112,113,114,115,116,117,118,119,120,121,122,48,49,50,51,52,53,54,55,56,57] (fun r5=>(bif (r5 == []) then (g.strings_ContainsAny a1 [97,98,99,100,101,102,103,104,105,106,107,108,109,110,111,112,113,114,115,116,117,118,119,120,121,122] (fun r6=>k0 r6)) else k0 false))) else k0 false)))
noncomputable def yvTy [Fuel]:C_R_plain:=⟨NN,@strings_Trim _,@R_in _,@strings_ContainsAny _⟩
noncomputable def R_plain [Fuel]:yjby:=@ywXy yvTy
def yfay (g:yjby):Spec A:=fun args=>match args with | [.d (.str a1),.d (.int .i64 a2),.d (.int .i64 a3)]=>fun k=>g a1 a2 a3 (fun z0=>k (.d (.bool z0)) [.undef,.undef,.undef]) | _=>fun _=>none
noncomputable def yIjy:Code:=(Tryz.f181.body).getD .skip
noncomputable def yFdy (g:C_R_plain):Env A:=mkE [(151,yfQy g.strings_Trim),(182,ykky g.R_in),(183,ycry g.strings_ContainsAny)] [] [] [] [] [] [] [] [] []
theorem yDGy (g:C_R_plain):Same (yfay (@ywXy g)) (abody (yFdy g) Tryz.f181 yIjy 0 [] [.asis] g.N):=by intro args; unfold yfay; split; exact .inr fun R k=>(by kernel_rfl); exact .inl fun R k=>rfl
theorem ysiy [Fuel]:Ok 181 (yfay (@R_plain _)):=yaay std (.cons yiZy (.cons yBPy (.cons ydYy .nil))) ⟨rfl,rfl,by kernel_rfl,rfl,rfl,rfl⟩ (yDGy yvTy) (cuts0 (fun _=>rfl) (by kernel_rfl)) Tryz.func181 (by kernel_rfl) (by kernel_rfl)
abbrev yhRy:Type 1:=List UInt8→{R:Type}→(Int→Option R)→Option R
structure C_R_baseAt where
 N:Nat
 z35z:ysqy
 R_plain:yjby
 R_in:ytvy
 strings_ContainsAny:ybRy
def yvLy (g:C_R_baseAt) (a1:List UInt8) {R:Type} (k0:Int→Option R):Option R :=
 (g.z35z a1 [48,49,50,51,52,53,54,55,56,57] (fun r2=>(g.R_plain a1 3 10 (fun r3=>(bif (!r3) then k0 (-1) else (g.R_in r2 1 3 (fun r4=>(bif (!r4) then k0 (-1) else (g.R_in (w64 ((w64 ((a1.length:Int) - 1)) - r2)) 1 4 (fun r5=>(bif (!r5) then k0 (-1) else (bif (decide (0≤r2) && decide (r2≤(a1.length:Int))) then (g.strings_ContainsAny (a1.take (r2:Int).toNat) [97,98,99,100,101,102,103,104,105,106,107,108,109,110,111,112,113,114,115,116,117,118,119,120,121,122] (fun r6=>(bif (!r6) then k0 (-1) else k0 r2))) else none))))))))))))
noncomputable def ysxy [Fuel]:C_R_baseAt:=⟨NN,@z35z _,@R_plain _,@R_in _,@strings_ContainsAny _⟩
noncomputable def R_baseAt [Fuel]:yhRy:=@yvLy ysxy
def yeby (g:yhRy):Spec A:=fun args=>match args with | [.d (.str a1)]=>fun k=>g a1 (fun z0=>k (.d (.int .i64 z0)) [.undef]) | _=>fun _=>none
noncomputable def yHJy:Code:=(Tryz.f145.body).getD .skip
noncomputable def yDXy (g:C_R_baseAt):Env A:=mkE [(180,ykcy g.z35z),(181,yfay g.R_plain),(182,ykky g.R_in),(183,ycry g.strings_ContainsAny)] [] [] [] [] [] [] [] [] []
theorem yBey (g:C_R_baseAt):Same (yeby (@yvLy g)) (abody (yDXy g) Tryz.f145 yHJy 0 [] [.asis] g.N):=by intro args; unfold yeby; split; exact .inr fun R k=>(by kernel_rfl); exact .inl fun R k=>rfl
theorem yp9y [Fuel]:Ok 145 (yeby (@R_baseAt _)):=yaay std (.cons yBZy (.cons ysiy (.cons yBPy (.cons ydYy .nil)))) ⟨rfl,rfl,by kernel_rfl,rfl,rfl,rfl⟩ (yBey ysxy) (cuts0 (fun _=>rfl) (by kernel_rfl)) Tryz.func145 (by kernel_rfl) (by kernel_rfl)
abbrev yuey:Type 1:=List UInt8→{R:Type}→(G_Parts→Option R)→Option R
structure C_z112z where
 N:Nat
 R_baseAt:yhRy
def z112z_ (g:C_z112z) (a1:List UInt8) {R:Type} (k0:G_Parts→Option R):Option R :=
 (g.R_baseAt a1 (fun r2=>(bif (decide (0≤(w64 (r2 + 1))) && decide ((w64 (r2 + 1))≤(a1.length:Int))) then (bif (decide (0≤(w64 (r2 + 1))) && decide ((w64 (r2 + 1))≤(a1.length:Int))) then k0 (⟨a1,(a1.take ((w64 (r2 + 1)):Int).toNat),(a1.drop ((w64 (r2 + 1)):Int).toNat),0,[]⟩:G_Parts) else none) else none)))
noncomputable def yCdy [Fuel]:C_z112z:=⟨NN,@R_baseAt _⟩
noncomputable def z112z [Fuel]:yuey:=@z112z_ yCdy
def yk4y (g:yuey):Spec A:=fun args=>match args with | [.d (.str a1)]=>fun k=>g a1 (fun z0=>k (.agg [.d (.str z0.f_Base),.d (.str z0.f_Prefix),.d (.str z0.f_Suffix),.d (.int .i64 z0.f_Kind),.d (.str z0.f_Added)]) [.undef]) | _=>fun _=>none
noncomputable def yIVy:Code:=(Tryz.f144.body).getD .skip
noncomputable def yKNy (g:C_z112z):Env A:=mkE [(145,yeby g.R_baseAt)] [(2,[0])] [] [] [] [] [] [] [] []
theorem yH6y (g:C_z112z):Same (yk4y (@z112z_ g)) (abody (yKNy g) Tryz.f144 yIVy 1 [] [.asis] g.N):=by intro args; unfold yk4y; split; exact .inr fun R k=>(by kernel_rfl); exact .inl fun R k=>rfl
theorem yHny [Fuel]:Ok 144 (yk4y (@z112z _)):=yaay std (.cons yp9y .nil) ⟨rfl,rfl,by kernel_rfl,rfl,rfl,rfl⟩ (yH6y yCdy) (cuts0 (fun _=>rfl) (by kernel_rfl)) Tryz.func144 (by kernel_rfl) (by kernel_rfl)
abbrev ym7y:Type 1:=List UInt8→{R:Type}→(Bool→Option R)→Option R
structure C_R_begin where
 N:Nat
 R_plain:yjby
def yyry (g:C_R_begin) (a1:List UInt8) {R:Type} (k0:Bool→Option R):Option R :=
 (g.R_plain a1 1 4 (fun r2=>k0 r2))
noncomputable def yvdy [Fuel]:C_R_begin:=⟨NN,@R_plain _⟩
noncomputable def R_begin [Fuel]:ym7y:=@yyry yvdy
def yhMy (g:ym7y):Spec A:=fun args=>match args with | [.d (.str a1)]=>fun k=>g a1 (fun z0=>k (.d (.bool z0)) [.undef]) | _=>fun _=>none
noncomputable def yJjy:Code:=(Tryz.f146.body).getD .skip
noncomputable def yGEy (g:C_R_begin):Env A:=mkE [(181,yfay g.R_plain)] [] [] [] [] [] [] [] [] []
theorem yEhy (g:C_R_begin):Same (yhMy (@yyry g)) (abody (yGEy g) Tryz.f146 yJjy 0 [] [.asis] g.N):=by intro args; unfold yhMy; split; exact .inr fun R k=>(by kernel_rfl); exact .inl fun R k=>rfl
theorem yDiy [Fuel]:Ok 146 (yhMy (@R_begin _)):=yaay std (.cons ysiy .nil) ⟨rfl,rfl,by kernel_rfl,rfl,rfl,rfl⟩ (yEhy yvdy) (cuts0 (fun _=>rfl) (by kernel_rfl)) Tryz.func146 (by kernel_rfl) (by kernel_rfl)
abbrev yfEy:Type 1:=List UInt8→List UInt8→{R:Type}→(Int→Option R)→Option R
structure C_strings_Index where
 N:Nat
 stringslite_Index:yb9y
def ykxy (g:C_strings_Index) (a1 a2:List UInt8) {R:Type} (k0:Int→Option R):Option R :=
 (g.stringslite_Index a1 a2 (fun r3=>k0 r3))
noncomputable def yi4y [Fuel]:C_strings_Index:=⟨NN,@stringslite_Index _⟩
noncomputable def strings_Index [Fuel]:yfEy:=@ykxy yi4y
def ycZy (g:yfEy):Spec A:=fun args=>match args with | [.d (.str a1),.d (.str a2)]=>fun k=>g a1 a2 (fun z0=>k (.d (.int .i64 z0)) [.undef,.undef]) | _=>fun _=>none
noncomputable def yI6y:Code:=(Tryz.f184.body).getD .skip
noncomputable def yrXy (g:C_strings_Index):Env A:=mkE [(208,ycXy g.stringslite_Index)] [] [] [] [] [] [] [] [] []
theorem yq1y (g:C_strings_Index):Same (ycZy (@ykxy g)) (abody (yrXy g) Tryz.f184 yI6y 0 [] [.asis] g.N):=by intro args; unfold ycZy; split; exact .inr fun R k=>(by kernel_rfl); exact .inl fun R k=>rfl
theorem yrky [Fuel]:Ok 184 (ycZy (@strings_Index _)):=yaay std (.cons yfCy .nil) ⟨rfl,rfl,by kernel_rfl,rfl,rfl,rfl⟩ (yq1y yi4y) (cuts0 (fun _=>rfl) (by kernel_rfl)) Tryz.func184 (by kernel_rfl) (by kernel_rfl)
abbrev ydBy:Type 1:=List UInt8→List UInt8→{R:Type}→(Bool→Option R)→Option R
structure C_strings_Contains where
 N:Nat
 strings_Index:yfEy
def yhEy (g:C_strings_Contains) (a1 a2:List UInt8) {R:Type} (k0:Bool→Option R):Option R :=
 (g.strings_Index a1 a2 (fun r3=>k0 (decide (r3 ≥ 0))))
noncomputable def yhiy [Fuel]:C_strings_Contains:=⟨NN,@strings_Index _⟩
noncomputable def strings_Contains [Fuel]:ydBy:=@yhEy yhiy
def ycby (g:ydBy):Spec A:=fun args=>match args with | [.d (.str a1),.d (.str a2)]=>fun k=>g a1 a2 (fun z0=>k (.d (.bool z0)) [.undef,.undef]) | _=>fun _=>none
noncomputable def yH8y:Code:=(Tryz.f147.body).getD .skip
noncomputable def ynoy (g:C_strings_Contains):Env A:=mkE [(184,ycZy g.strings_Index)] [] [] [] [] [] [] [] [] []
theorem ymSy (g:C_strings_Contains):Same (ycby (@yhEy g)) (abody (ynoy g) Tryz.f147 yH8y 0 [] [.asis] g.N):=by intro args; unfold ycby; split; exact .inr fun R k=>(by kernel_rfl); exact .inl fun R k=>rfl
theorem ymRy [Fuel]:Ok 147 (ycby (@strings_Contains _)):=yaay std (.cons yrky .nil) ⟨rfl,rfl,by kernel_rfl,rfl,rfl,rfl⟩ (ymSy yhiy) (cuts0 (fun _=>rfl) (by kernel_rfl)) Tryz.func147 (by kernel_rfl) (by kernel_rfl)
abbrev ygQy:Type 1:=List UInt8→{R:Type}→(G_Parts→Bool→Option R)→Option R
structure C_R_PartsOf where
 N:Nat
 z110z:yoIy
 z112z:yuey
 R_baseAt:yhRy
 R_begin:ym7y
 strings_Contains:ydBy
def ytcy (g:C_R_PartsOf) (a1:List UInt8) {R:Type} (k0:G_Parts→Bool→Option R):Option R :=
 (g.z110z a1 [47] (fun r2 r3 r4=>(bif (decide ((a1.length:Int) > 14)) then k0 (⟨[],[],[],0,[]⟩:G_Parts) false else (bif (!r4) then (g.R_baseAt r2 (fun r5=>(bif (decide (r5 < 0)) then k0 (⟨[],[],[],0,[]⟩:G_Parts) false else (g.z112z r2 (fun r6=>k0 r6 true))))) else (g.R_baseAt r3 (fun r7=>(bif (decide (r7 ≥ 0)) then (g.R_begin r2 (fun r8=>(bif r8 then (g.z112z r3 (fun r9=>k0 (⟨r9.f_Base,r9.f_Prefix,r9.f_Suffix,1,r2⟩:G_Parts) true)) else (g.R_baseAt r2 (fun r10=>(bif (decide (r10 < 0)) then k0 (⟨[],[],[],0,[]⟩:G_Parts) false else (g.z112z r2 (fun r11=>(bif (r3 == [112]) then k0 (⟨r11.f_Base,r11.f_Prefix,r11.f_Suffix,3,r11.f_Added⟩:G_Parts) true else (bif (r3 == [109]) then k0 (⟨r11.f_Base,r11.f_Prefix,r11.f_Suffix,4,r11.f_Added⟩:G_Parts) true else (bif (r3 == [109,109]) then k0 (⟨r11.f_Base,r11.f_Prefix,r11.f_Suffix,5,r11.f_Added⟩:G_Parts) true else (bif (r3 == [97,109]) then k0 (⟨r11.f_Base,r11.f_Prefix,r11.f_Suffix,6,r11.f_Added⟩:G_Parts) true else (bif ((r3.length:Int) == 1) then (g.strings_Contains [48,49,50,51,52,53,54,55,56,57] r3 (fun r12=>(bif r12 then k0 (⟨r11.f_Base,r11.f_Prefix,r11.f_Suffix,2,r3⟩:G_Parts) true else (g.R_begin r3 (fun r13=>(bif r13 then k0 (⟨r11.f_Base,r11.f_Prefix,r11.f_Suffix,1,r3⟩:G_Parts) true else k0 (⟨[],[],[],0,[]⟩:G_Parts) false)))))) else (g.R_begin r3 (fun r14=>(bif r14 then k0 (⟨r11.f_Base,r11.f_Prefix,r11.f_Suffix,1,r3⟩:G_Parts) true else k0 (⟨[],[],[],0,[]⟩:G_Parts) false)))))))))))))))) else (g.R_baseAt r2 (fun r15=>(bif (decide (r15 < 0)) then k0 (⟨[],[],[],0,[]⟩:G_Parts) false else (g.z112z r2 (fun r16=>(bif (r3 == [112]) then k0 (⟨r16.f_Base,r16.f_Prefix,r16.f_Suffix,3,r16.f_Added⟩:G_Parts) true else (bif (r3 == [109]) then k0 (⟨r16.f_Base,r16.f_Prefix,r16.f_Suffix,4,r16.f_Added⟩:G_Parts) true else (bif (r3 == [109,109]) then k0 (⟨r16.f_Base,r16.f_Prefix,r16.f_Suffix,5,r16.f_Added⟩:G_Parts) true else (bif (r3 == [97,109]) then k0 (⟨r16.f_Base,r16.f_Prefix,r16.f_Suffix,6,r16.f_Added⟩:G_Parts) true else (bif ((r3.length:Int) == 1) then (g.strings_Contains [48,49,50,51,52,53,54,55,56,57] r3 (fun r17=>(bif r17 then k0 (⟨r16.f_Base,r16.f_Prefix,r16.f_Suffix,2,r3⟩:G_Parts) true else (g.R_begin r3 (fun r18=>(bif r18 then k0 (⟨r16.f_Base,r16.f_Prefix,r16.f_Suffix,1,r3⟩:G_Parts) true else k0 (⟨[],[],[],0,[]⟩:G_Parts) false)))))) else (g.R_begin r3 (fun r19=>(bif r19 then k0 (⟨r16.f_Base,r16.f_Prefix,r16.f_Suffix,1,r3⟩:G_Parts) true else k0 (⟨[],[],[],0,[]⟩:G_Parts) false))))))))))))))))))))
noncomputable def yp7y [Fuel]:C_R_PartsOf:=⟨NN,@z110z _,@z112z _,@R_baseAt _,@R_begin _,@strings_Contains _⟩
noncomputable def R_PartsOf [Fuel]:ygQy:=@ytcy yp7y
def ydxy (g:ygQy):Spec A:=fun args=>match args with | [.d (.str a1)]=>fun k=>g a1 (fun z0 z1=>k (.tup [.agg [.d (.str z0.f_Base),.d (.str z0.f_Prefix),.d (.str z0.f_Suffix),.d (.int .i64 z0.f_Kind),.d (.str z0.f_Added)],.d (.bool z1)]) [.undef]) | _=>fun _=>none
noncomputable def yIey:Code:=(Tryz.f109.body).getD .skip
noncomputable def yAZy (g:C_R_PartsOf):Env A:=mkE [(138,yijy g.z110z),(144,yk4y g.z112z),(145,yeby g.R_baseAt),(146,yhMy g.R_begin),(147,ycby g.strings_Contains)] [(2,[0]),(8,[1]),(9,[2])] [] [] [] [] [] [] [] []
theorem yzKy (g:C_R_PartsOf):Same (ydxy (@ytcy g)) (abody (yAZy g) Tryz.f109 yIey 3 [] [.asis,.asis] g.N):=by intro args; unfold ydxy; split; exact .inr fun R k=>(by kernel_rfl); exact .inl fun R k=>rfl
theorem yncy [Fuel]:Ok 109 (ydxy (@R_PartsOf _)):=yaay std (.cons yy8y (.cons yHny (.cons yp9y (.cons yDiy (.cons ymRy .nil))))) ⟨rfl,rfl,by kernel_rfl,rfl,rfl,rfl⟩ (yzKy yp7y) (cuts0 (fun _=>rfl) (by kernel_rfl)) Tryz.func109 (by kernel_rfl) (by kernel_rfl)
abbrev ykUy:Type 1:=List UInt8→{R:Type}→(Bool→Option R)→Option R
structure C_Q_Call where
 N:Nat
 R_PartsOf:ygQy
def yBWy (g:C_Q_Call) (a1:List UInt8) {R:Type} (k0:Bool→Option R):Option R :=
 (g.R_PartsOf a1 (fun r2 r3=>k0 r3))
noncomputable def yyEy [Fuel]:C_Q_Call:=⟨NN,@R_PartsOf _⟩
noncomputable def Q_Call [Fuel]:ykUy:=@yBWy yyEy
def yhmy (g:ykUy):Spec A:=fun args=>match args with | [.d (.str a1)]=>fun k=>g a1 (fun z0=>k (.d (.bool z0)) [.undef]) | _=>fun _=>none
noncomputable def yLTy:Code:=(Tryz.f60.body).getD .skip
noncomputable def yG2y (g:C_Q_Call):Env A:=mkE [(109,ydxy g.R_PartsOf)] [(3,[0])] [] [] [] [] [] [] [] []
theorem yGiy (g:C_Q_Call):Same (yhmy (@yBWy g)) (abody (yG2y g) Tryz.f60 yLTy 1 [] [.asis] g.N):=by intro args; unfold yhmy; split; exact .inr fun R k=>(by kernel_rfl); exact .inl fun R k=>rfl
theorem yjfy [Fuel]:Ok 60 (yhmy (@Q_Call _)):=yaay std (.cons yncy .nil) ⟨rfl,rfl,by kernel_rfl,rfl,rfl,rfl⟩ (yGiy yyEy) (cuts0 (fun _=>rfl) (by kernel_rfl)) Tryz.func60 (by kernel_rfl) (by kernel_rfl)
abbrev yxWy:Type 1:=List G_Spot→{R:Type}→(Int→Option R)→Option R
structure C_z71z where
 N:Nat
 z20z:ysAy
 Q_in:yg1y
 Q_Moment:ye0y
 Q_Call:ykUy
def z71z_L4 (g:C_z71z):Nat→List G_Spot→List G_Spot→Int→Int→{R:Type}→(Int→Option R)→Option R→Option R
 | 0,_,_,_,_,_,_,_=>none
 | n + 1,v2,v3,v4,v5,_,e0,e1=>(bif (decide (v5 < v4)) then (get_ v3 v5 fun x13=>(g.Q_Moment x13.f_At (fun r14=>(bif (!r14) then e0 1 else (g.Q_in x13.f_Hertz 0 30000000000 (fun r15=>(bif (!r15) then e0 1 else (g.Q_Call x13.f_Call (fun r16=>(bif (!r16) then e0 3 else (g.Q_Call x13.f_By (fun r17=>(bif (!r17) then e0 3 else (bif (decide (v5 > 0)) then (get_ v2 (w64 (v5 - 1)) fun x18=>(g.z20z x18 x13 (fun r19=>(bif (decide (r19 ≥ 0)) then e0 7 else z71z_L4 g n v2 v3 v4 (w64 (v5 + 1)) e0 e1)))) else z71z_L4 g n v2 v3 v4 (w64 (v5 + 1)) e0 e1)))))))))))))) else e1)
def z71z_ (g:C_z71z) (a1:List G_Spot) {R:Type} (k0:Int→Option R):Option R :=
 (bif (decide ((a1.length:Int) > 2000)) then k0 2 else (z71z_L4 g g.N a1 a1 (a1.length:Int) 0 (fun e20=>k0 e20) (k0 0)))
noncomputable def yc5y [Fuel]:C_z71z:=⟨NN,@z20z _,@Q_in _,@Q_Moment _,@Q_Call _⟩
noncomputable def z71z [Fuel]:yxWy:=@z71z_ yc5y
def yoMy (g:yxWy):Spec A:=fun args=>match args with | [.d (.sl 52 a1)]=>fun k=>g a1 (fun z0=>k (.d (.int .i64 z0)) [.undef]) | _=>fun _=>none
def ylXy:SSt:=mkSh 51 1 [(0,.sl 52),(8,.sl 52),(9,.int .i64),(10,.int .i64)] []
def yfjy (g:C_z71z) (n:Nat):LPT A:=fun ps=>match ps with | [.d (.sl 52 p1),.d (.sl 52 p2),.d (.int .i64 p3),.d (.int .i64 p4)]=>fun K=>z71z_L4 g n p1 p2 p3 p4 (fun z0=>K .ret (mkSt 51 1 [(2,.d (.int .i64 z0))] [])) (K (.exit 0) (mkSt 51 1 [] [])) | _=>fun _=>none
noncomputable def yBCy:Code:=(Tryz.f15.body).getD .skip
noncomputable def ysKy (g:C_z71z):Env A:=mkE [(40,ykwy g.z20z),(57,ydTy g.Q_in),(59,ydry g.Q_Moment),(60,yhmy g.Q_Call)] [(4,[0])] [(4,⟨[0,8,9,10],[],[],[],[],[],[]⟩)] [(4,⟨[2],[],[],[],[],[],[]⟩)] [(4,yaey ylXy (yfjy g g.N))] [] [] [] [] []
theorem yMgy [Fuel]:yagy (ysKy yc5y).C:=ct_of (P:=Tryz.prog) (T:=T) (.cons yo0y (.cons yeDy (.cons ygPy (.cons yjfy .nil)))) (by kernel_rfl)
noncomputable def yr7y:Code:=sub [1,1,0,1,0,0] yBCy
theorem yEXy (g:C_z71z) (n:Nat):yahy (ysKy g) g.N yr7y ylXy (yfjy g) n:=by intro ps; unfold yfjy; split; exact .inr fun R K=>(by kernel_rfl); exact .inl fun R K=>rfl
theorem yDoy [Fuel]:yacy (ysKy yc5y) NN yr7y:=yaby ylXy (yfjy yc5y) (by kernel_rfl) yMgy (cuts0 (fun _=>rfl) (by kernel_rfl)) (fun ps R K=>by unfold yfjy; split <;> (try unfold z71z_L4) <;> rfl) (yEXy yc5y)
theorem yKWy (g:C_z71z):Same (yoMy (@z71z_ g)) (abody (ysKy g) Tryz.f15 yBCy 1 [] [.asis] g.N):=by intro args; unfold yoMy; split; exact .inr fun R k=>(by kernel_rfl); exact .inl fun R k=>rfl
theorem yMRy [Fuel]:Ok 15 (yoMy (@z71z _)):=yaay std (.cons yo0y (.cons yeDy (.cons ygPy (.cons yjfy .nil)))) ⟨rfl,rfl,by kernel_rfl,rfl,rfl,rfl⟩ (yKWy yc5y) (cutsL (fun _=>rfl) (.cons yDoy .nil) (by kernel_rfl)) Tryz.func15 (by kernel_rfl) (by kernel_rfl)
abbrev ymey:Type 1:=List Int→{R:Type}→(Int→Option R)→Option R
def ycwy (g:Nat):Nat→List Int→Int→Int→{R:Type}→(Int→Option R)→Option R→Option R
 | 0,_,_,_,_,_,_=>none
 | n + 1,v2,v3,v4,_,e0,e1=>(bif (decide (v4 < v3)) then (get_ v2 v4 fun x6=>(bif (x6 != 0) then e0 x6 else ycwy g n v2 v3 (w64 (v4 + 1)) e0 e1)) else e1)
def yu9y (g:Nat) (a1:List Int) {R:Type} (k0:Int→Option R):Option R :=
 (ycwy g g a1 (a1.length:Int) 0 (fun e7=>k0 e7) (k0 0))
noncomputable def law_errs [Fuel]:ymey:=@yu9y NN
def ygRy (g:ymey):Spec A:=fun args=>match args with | [.d (.sl 35 a1)]=>fun k=>g a1 (fun z0=>k (.d (.int .i64 z0)) [.undef]) | _=>fun _=>none
def ygAy:SSt:=mkSh 15 0 [(5,.sl 35),(6,.int .i64),(7,.int .i64)] []
def ycFy (g:Nat) (n:Nat):LPT A:=fun ps=>match ps with | [.d (.sl 35 p1),.d (.int .i64 p2),.d (.int .i64 p3)]=>fun K=>ycwy g n p1 p2 p3 (fun z0=>K .ret (mkSt 15 0 [(2,.d (.int .i64 z0))] [])) (K (.exit 0) (mkSt 15 0 [] [])) | _=>fun _=>none
noncomputable def yCxy:Code:=(Tryz.f13.body).getD .skip
noncomputable def yhLy (g:Nat):Env A:=mkE [] [] [(2,⟨[5,6,7],[],[],[],[],[],[]⟩)] [(2,⟨[2],[],[],[],[],[],[]⟩)] [(2,yaey ygAy (ycFy g g))] [] [] [] [] []
theorem yBhy [Fuel]:yagy (yhLy NN).C:=ct_of (P:=Tryz.prog) (T:=T) .nil (by kernel_rfl)
noncomputable def yjVy:Code:=sub [1,0,1,0,0] yCxy
theorem ywBy (g:Nat) (n:Nat):yahy (yhLy g) g yjVy ygAy (ycFy g) n:=by intro ps; unfold ycFy; split; exact .inr fun R K=>(by kernel_rfl); exact .inl fun R K=>rfl
theorem ytUy [Fuel]:yacy (yhLy NN) NN yjVy:=yaby ygAy (ycFy NN) (by kernel_rfl) yBhy (cuts0 (fun _=>rfl) (by kernel_rfl)) (fun ps R K=>by unfold ycFy; split <;> (try unfold ycwy) <;> rfl) (ywBy NN)
theorem yBgy (g:Nat):Same (ygRy (@yu9y g)) (abody (yhLy g) Tryz.f13 yCxy 0 [] [.asis] g):=by intro args; unfold ygRy; split; exact .inr fun R k=>(by kernel_rfl); exact .inl fun R k=>rfl
theorem yAsy [Fuel]:Ok 13 (ygRy (@law_errs _)):=yaay std .nil ⟨rfl,rfl,by kernel_rfl,rfl,rfl,rfl⟩ (yBgy NN) (cutsL (fun _=>rfl) (.cons ytUy .nil) (by kernel_rfl)) Tryz.func13 (by kernel_rfl) (by kernel_rfl)
end Go.Am
