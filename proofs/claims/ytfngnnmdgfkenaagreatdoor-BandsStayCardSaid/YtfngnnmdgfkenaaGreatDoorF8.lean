/- The functions of the program as Lean functions, each shown to be what the code computes, part 8. No condition: lemmas for the claim. -/
import Derived.Test.YtfngnnmdgfkenaaGreatDoorF0
import Derived.Test.YtfngnnmdgfkenaaGreatDoorFSh
import Derived.Test.YtfngnnmdgfkenaaGreatDoorF4
import Derived.Test.YtfngnnmdgfkenaaGreatDoorF5
import Derived.Test.YtfngnnmdgfkenaaGreatDoorF6
import Derived.Test.YtfngnnmdgfkenaaGreatDoorF7
set_option linter.unusedVariables false
set_option maxRecDepth 100000
namespace Go.Am
open Go Go.Proofs
abbrev yxdy:Type 1:=List G_Spot→{R:Type}→(List G_Spot→Option R)→Option R
noncomputable def z56z [Fuel]:yxdy:=@ybwy G_Spot (@z39z _)
def ykvy (g:yxdy):Spec A:=fun args=>match args with | [.arr 45 a1,.fn 39 []]=>fun k=>g a1 (fun z=>k (.tup []) [.arr 45 z,.fn 39 []]) | _=>fun _=>none
theorem yDMy [Fuel] (xs:List (A 45)) (R:Type) (k:IV A→List (IV A)→Option R):ykvy (@z56z _) [.arr 45 xs,.fn 39 []] k = ybwy (α:=A 45) (@z39z _) xs (fun z=>k (.tup []) [.arr 45 z,.fn 39 []]):=by kernel_rfl
theorem yCqy [Fuel] (args:List (IV A)) (R:Type) (k:IV A→List (IV A)→Option R) (h:∀ xs:List (A 45),args ≠ [.arr 45 xs,.fn 39 []]):ykvy (@z56z _) args k = none:=by unfold ykvy; split; exact absurd rfl (h _); rfl
theorem yNty [Fuel] (x y:A 45) (R:Type) (k:Int→Option R):ykFy T (yeLy (@z39z _)) 45 x y k = @z39z _ x y R k:=by kernel_rfl
theorem yNny (x:G_Spot):(yoNy x).all scal = true:=rfl
theorem yDmy [Fuel]:Ok 38 (ykvy (@z56z _)):=⟨yhdy (tyOk Tryz.prog) (e:=45) Tryz.sortf38 Tryz.isAgg45 Tryz.sizeOf45 (fun x d hd=>List.all_eq_true.1 (yNny x) d hd) yNty yxiy.fs yxiy.en yDMy yCqy,ymay (e:=45) yDMy yCqy,yaOy (fn:=Tryz.f38) Tryz.func38 (by kernel_rfl) (by kernel_rfl)⟩
abbrev yyfy:Type 1:=List G_Spot→{R:Type}→(List G_Spot→Int→Option R)→Option R
structure C_z68z where
 N:Nat
 z45z:ysuy
 z24z:yANy
 z56z:yxdy
 z26z:ysby
def z68z_L2 (g:C_z68z):Nat→List G_Spot→Int→Int→List (List G_Spot)→{R:Type}→(List G_Spot→Int→Option R)→(List G_Spot→Option R)→Option R
 | 0,_,_,_,_,_,_,_=>none
 | n + 1,v2,v3,v4,v5,_,e0,e1=>(bif (decide (v4 < v3)) then (inr v5 v4 (at_ v5 v4 fun x8=>(g.z45z x8 (fun r9=>(bif (r9 != 0) then e0 v2 r9 else z68z_L2 g n v2 v3 (w64 (v4 + 1)) v5 e0 e1))))) else e1 v2)
def z68z_ (g:C_z68z) (a1:List G_Spot) {R:Type} (k0:List G_Spot→Int→Option R):Option R :=
 (z68z_L2 g g.N a1 ([a1,[]].length:Int) 0 [a1,[]] (fun e10 e11=>k0 [] e11) (fun e12=>(g.z24z [e12,[]] (fun r13=>(g.z56z r13 (fun r14=>(g.z26z r14 (fun r15=>(bif (decide ((r15.length:Int) > 2000)) then k0 [] 2 else k0 r15 0)))))))))
noncomputable def ycKy [Fuel]:C_z68z:=⟨NN,@z45z _,@z24z _,@z56z _,@z26z _⟩
noncomputable def z68z [Fuel]:yyfy:=@z68z_ ycKy
def yoyy (g:yyfy):Spec A:=fun args=>match args with | [.d (.sl 45 a1),.d .nsl]=>fun k=>g a1 (fun z0 z1=>k (.tup [.arr 45 z0,.d (.int .i64 z1)]) [.undef,.undef]) | _=>fun _=>none
def yk7y:SSt:=mkSh 36 4 [(0,.sl 45),(1,.nsl),(12,.own 30 0),(13,.int .i64),(14,.int .i64)] [(0,.row 30)]
def yfby (g:C_z68z) (n:Nat):LPT A:=fun ps=>match ps with | [.d (.sl 45 p1),.d (.int .i64 p2),.d (.int .i64 p3),.d (.sl 30 p4)]=>fun K=>z68z_L2 g n p1 p2 p3 p4 (fun z0 z1=>K .ret (mkSt 36 4 [(0,.d (.sl 45 z0)),(1,.d .nsl),(4,.d .nsl),(5,.d (.int .i64 z1))] [])) (fun z0=>K (.exit 0) (mkSt 36 4 [(0,.d (.sl 45 z0)),(1,.d .nsl)] [])) | _=>fun _=>none
noncomputable def yCMy:Code:=(Tryz.f10.body).getD .skip
noncomputable def yr1y (g:C_z68z):Env A:=mkE [(36,yk4y g.z45z),(37,yoWy g.z24z),(38,ykvy g.z56z),(40,ykby g.z26z)] [(12,[0]),(26,[1]),(27,[2]),(31,[3])] [(2,⟨[0,1,12,13,14],[],[0],[],[],[],[]⟩)] [(2,⟨[0,1,4,5],[],[],[],[],[],[]⟩)] [(2,yady yk7y (yfby g g.N))] [] [] [] [(38,0),(40,0)] []
theorem yMzy [Fuel]:yahy (yr1y ycKy).C:=ct_of (P:=Tryz.prog) (T:=T) (.cons yuVy (.cons yCTy (.cons yDmy (.cons yoIy .nil)))) (by kernel_rfl)
noncomputable def ys1y:Code:=sub [1,0,1,0,0] yCMy
theorem yHgy (g:C_z68z) (n:Nat):yaiy (yr1y g) g.N ys1y yk7y (yfby g) n:=by intro ps; unfold yfby; split; exact .inr fun R K=>(by kernel_rfl); exact .inl fun R K=>rfl
theorem yECy [Fuel]:yaby (yr1y ycKy) NN ys1y:=yacy yk7y (yfby ycKy) (by kernel_rfl) yMzy (cuts0 (fun _=>rfl) (by kernel_rfl)) (fun ps R K=>by unfold yfby; split <;> (try unfold z68z_L2) <;> rfl) (yHgy ycKy)
theorem yN4y (g:C_z68z):Same (yoyy (@z68z_ g)) (abody (yr1y g) Tryz.f10 yCMy 4 [] [.arr 45,.asis] g.N):=by intro args; unfold yoyy; split; exact .inr fun R k=>(by kernel_rfl); exact .inl fun R k=>rfl
theorem yNzy [Fuel]:Ok 10 (yoyy (@z68z _)):=yaay std (.cons yuVy (.cons yCTy (.cons yDmy (.cons yoIy .nil)))) ⟨rfl,rfl,by kernel_rfl,rfl,rfl,rfl⟩ (yN4y ycKy) (cutsL (fun _=>rfl) (.cons yECy .nil) (by kernel_rfl)) Tryz.func10 (by kernel_rfl) (by kernel_rfl)
abbrev yyLy:Type 1:=List G_Spot→{R:Type}→(List G_Spot→Option R)→Option R
def z78z_L2 (g:Nat):Nat→Int→Int→List G_Spot→G_Spot→{R:Type}→(List G_Spot→Option R)→Option R
 | 0,_,_,_,_,_,_=>none
 | n + 1,v2,v3,v4,v5,_,e0=>(bif (decide (v3 < v2)) then (inr v4 v3 (at_ v4 v3 fun x7=>z78z_L2 g n v2 (w64 (v3 + 1)) (set_ v4 v3 v5) v5 e0)) else e0 v4)
def z78z_ (g:Nat) (a1:List G_Spot) {R:Type} (k0:List G_Spot→Option R):Option R :=
 (z78z_L2 g g (a1.length:Int) 0 a1 (⟨0,0,[],[]⟩:G_Spot) (fun e8=>k0 e8))
noncomputable def z78z [Fuel]:yyLy:=@z78z_ NN
def yo7y (g:yyLy):Spec A:=fun args=>match args with | [.arr 45 a1]=>fun k=>g a1 (fun z0=>k (.tup []) [.arr 45 z0]) | _=>fun _=>none
def ylty:SSt:=mkSh 14 2 [(0,.own 45 0),(2,.ptr 1 0),(5,.int .i64),(6,.int .i64)] [(0,.row 45),(1,.box [.int .i64,.int .i64,.str,.str])]
def yfQy (g:Nat) (n:Nat):LPT A:=fun ps=>match ps with | [.d (.int .i64 p1),.d (.int .i64 p2),.d (.sl 45 p3),.d (.int .i64 p4),.d (.int .i64 p5),.d (.str p6),.d (.str p7)]=>fun K=>z78z_L2 g n p1 p2 p3 ⟨p4,p5,p6,p7⟩ (fun z0=>K (.exit 0) (mkSt 14 2 [(0,.own 45 0)] [(0,some (.row 45 z0))])) | _=>fun _=>none
noncomputable def yCGy:Code:=(Tryz.f11.body).getD .skip
noncomputable def ytny (g:Nat):Env A:=mkE [] [(2,[1])] [(2,⟨[0,2,5,6],[],[0,1],[],[],[],[]⟩)] [(2,⟨[0],[],[0],[],[],[],[]⟩)] [(2,yady ylty (yfQy g g))] [] [] [] [] [0]
theorem yMIy [Fuel]:yahy (ytny NN).C:=ct_of (P:=Tryz.prog) (T:=T) .nil (by kernel_rfl)
noncomputable def yrPy:Code:=sub [1,1,0,0] yCGy
theorem yIey (g:Nat) (n:Nat):yaiy (ytny g) g yrPy ylty (yfQy g) n:=by intro ps; unfold yfQy; split; exact .inr fun R K=>(by kernel_rfl); exact .inl fun R K=>rfl
theorem yE3y [Fuel]:yaby (ytny NN) NN yrPy:=yacy ylty (yfQy NN) (by kernel_rfl) yMIy (cuts0 (fun _=>rfl) (by kernel_rfl)) (fun ps R K=>by unfold yfQy; split <;> (try unfold z78z_L2) <;> rfl) (yIey NN)
theorem yN5y (g:Nat):Same (yo7y (@z78z_ g)) (abody (ytny g) Tryz.f11 yCGy 2 [0] [] g):=by intro args; unfold yo7y; split; exact .inr fun R k=>(by kernel_rfl); exact .inl fun R k=>rfl
theorem yQmy [Fuel]:Ok 11 (yo7y (@z78z _)):=yaay std .nil ⟨rfl,rfl,by kernel_rfl,rfl,rfl,rfl⟩ (yN5y NN) (cutsL (fun _=>rfl) (.cons yE3y .nil) (by kernel_rfl)) Tryz.func11 (by kernel_rfl) (by kernel_rfl)
abbrev yx7y:Type 1:=G_Band→G_Band→{R:Type}→(Bool→G_Band→Option R)→Option R
def z23z_ (g:Nat) (a1 a2:G_Band) {R:Type} (k0:Bool→G_Band→Option R):Option R :=
 k0 (a1.f_Key == a2.f_Key) a2
noncomputable def z23z [Fuel]:yx7y:=@z23z_ NN
def yo1y (g:yx7y):Spec A:=fun args=>match args with | [.agg [.d (.str a1),.d (.int .i64 a2),.d (.int .i64 a3)],.box [.d (.str a4),.d (.int .i64 a5),.d (.int .i64 a6)]]=>fun k=>g ⟨a1,a2,a3⟩ ⟨a4,a5,a6⟩ (fun z0 z1=>k (.d (.bool z0)) [.undef,.box [.d (.str z1.f_Key),.d (.int .i64 z1.f_Low),.d (.int .i64 z1.f_High)]]) | _=>fun _=>none
noncomputable def yKvy:Code:=(Tryz.f124.body).getD .skip
noncomputable def yRUy (g:Nat):Env A:=mkE [] [(2,[1])] [] [] [] [] [] [] [] [1]
theorem yPVy (g:Nat):Same (yo1y (@z23z_ g)) (abody (yRUy g) Tryz.f124 yKvy 2 [0] [.asis] g):=by intro args; unfold yo1y; split; exact .inr fun R k=>(by kernel_rfl); exact .inl fun R k=>rfl
theorem yEky [Fuel]:Ok 124 (yo1y (@z23z _)):=yaay std .nil ⟨rfl,rfl,by kernel_rfl,rfl,rfl,rfl⟩ (yPVy NN) (cuts0 (fun _=>rfl) (by kernel_rfl)) Tryz.func124 (by kernel_rfl) (by kernel_rfl)
abbrev yyuy:Type 1:=List G_Band→G_Band→{R:Type}→(Int→G_Band→Option R)→Option R
structure C_z17z where
 N:Nat
 z23z:yx7y
def z17z_L2 (g:C_z17z):Nat→List G_Band→Int→Int→G_Band→{R:Type}→(Int→G_Band→Option R)→(G_Band→Option R)→Option R
 | 0,_,_,_,_,_,_,_=>none
 | n + 1,v3,v4,v5,v6,_,e0,e1=>(bif (decide (v5 < v4)) then (get_ v3 v5 fun x10=>(g.z23z x10 v6 (fun r11 r12=>(bif r11 then e0 v5 r12 else z17z_L2 g n v3 v4 (w64 (v5 + 1)) r12 e0 e1)))) else e1 v6)
def z17z_ (g:C_z17z) (a1:List G_Band) (a2:G_Band) {R:Type} (k0:Int→G_Band→Option R):Option R :=
 (z17z_L2 g g.N a1 (a1.length:Int) 0 a2 (fun e13 e14=>k0 e13 e14) (fun e15=>k0 (-1) e15))
noncomputable def yiCy [Fuel]:C_z17z:=⟨NN,@z23z _⟩
noncomputable def z17z [Fuel]:yyuy:=@z17z_ yiCy
def ypNy (g:yyuy):Spec A:=fun args=>match args with | [.d (.sl 62 a1),.fn 124 [.box [.d (.str a2),.d (.int .i64 a3),.d (.int .i64 a4)]]]=>fun k=>g a1 ⟨a2,a3,a4⟩ (fun z0 z1=>k (.d (.int .i64 z0)) [.undef,.fn 124 [.box [.d (.str z1.f_Key),.d (.int .i64 z1.f_Low),.d (.int .i64 z1.f_High)]]]) | _=>fun _=>none
def ylNy:SSt:=mkSh 19 1 [(0,.sl 62),(1,.fn 124 [.ptr 0 0]),(7,.int .i64),(8,.int .i64)] [(0,.box [.str,.int .i64,.int .i64])]
def ygfy (g:C_z17z) (n:Nat):LPT A:=fun ps=>match ps with | [.d (.sl 62 p1),.d (.int .i64 p2),.d (.int .i64 p3),.d (.str p4),.d (.int .i64 p5),.d (.int .i64 p6)]=>fun K=>z17z_L2 g n p1 p2 p3 ⟨p4,p5,p6⟩ (fun z0 z1=>K .ret (mkSt 19 1 [(1,.fn 124 [.ptr 0 0]),(4,.d (.int .i64 z0))] [(0,some (.box [.d (.str z1.f_Key),.d (.int .i64 z1.f_Low),.d (.int .i64 z1.f_High)]))])) (fun z0=>K (.exit 0) (mkSt 19 1 [(1,.fn 124 [.ptr 0 0])] [(0,some (.box [.d (.str z0.f_Key),.d (.int .i64 z0.f_Low),.d (.int .i64 z0.f_High)]))])) | _=>fun _=>none
noncomputable def yldy:Code:=(Tryz.f126.body).getD .skip
noncomputable def ysvy (g:C_z17z):Env A:=mkE [(124,yo1y g.z23z)] [] [(2,⟨[0,1,7,8],[],[0],[],[],[],[]⟩)] [(2,⟨[1,4],[],[0],[],[],[],[]⟩)] [(2,yady ylNy (ygfy g g.N))] [] [] [] [] [1]
theorem yN7y [Fuel]:yahy (ysvy yiCy).C:=ct_of (P:=Tryz.prog) (T:=T) (.cons yEky .nil) (by kernel_rfl)
noncomputable def ysjy:Code:=sub [1,0,1,0,0] yldy
theorem yGLy (g:C_z17z) (n:Nat):yaiy (ysvy g) g.N ysjy ylNy (ygfy g) n:=by intro ps; unfold ygfy; split; exact .inr fun R K=>(by kernel_rfl); exact .inl fun R K=>rfl
theorem yFOy [Fuel]:yaby (ysvy yiCy) NN ysjy:=yacy ylNy (ygfy yiCy) (by kernel_rfl) yN7y (cuts0 (fun _=>rfl) (by kernel_rfl)) (fun ps R K=>by unfold ygfy; split <;> (try unfold z17z_L2) <;> rfl) (yGLy yiCy)
theorem yPqy (g:C_z17z):Same (ypNy (@z17z_ g)) (abody (ysvy g) Tryz.f126 yldy 1 [0] [.asis] g.N):=by intro args; unfold ypNy; split; exact .inr fun R k=>(by kernel_rfl); exact .inl fun R k=>rfl
theorem yP3y [Fuel]:Ok 126 (ypNy (@z17z _)):=yaay std (.cons yEky .nil) ⟨rfl,rfl,by kernel_rfl,rfl,rfl,rfl⟩ (yPqy yiCy) (cutsL (fun _=>rfl) (.cons yFOy .nil) (by kernel_rfl)) Tryz.func126 (by kernel_rfl) (by kernel_rfl)
abbrev yyay:Type 1:=List G_Band→G_Band→{R:Type}→(Bool→G_Band→Option R)→Option R
structure C_z42z where
 N:Nat
 z17z:yyuy
def z42z_ (g:C_z42z) (a1:List G_Band) (a2:G_Band) {R:Type} (k0:Bool→G_Band→Option R):Option R :=
 (g.z17z a1 a2 (fun r3 r4=>k0 (decide (r3 ≥ 0)) r4))
noncomputable def yxoy [Fuel]:C_z42z:=⟨NN,@z17z _⟩
noncomputable def z42z [Fuel]:yyay:=@z42z_ yxoy
def ypwy (g:yyay):Spec A:=fun args=>match args with | [.d (.sl 62 a1),.fn 124 [.box [.d (.str a2),.d (.int .i64 a3),.d (.int .i64 a4)]]]=>fun k=>g a1 ⟨a2,a3,a4⟩ (fun z0 z1=>k (.d (.bool z0)) [.undef,.fn 124 [.box [.d (.str z1.f_Key),.d (.int .i64 z1.f_Low),.d (.int .i64 z1.f_High)]]]) | _=>fun _=>none
noncomputable def yJIy:Code:=(Tryz.f123.body).getD .skip
noncomputable def yR3y (g:C_z42z):Env A:=mkE [(126,ypNy g.z17z)] [] [] [] [] [] [] [] [(126,0)] [1]
theorem yN1y (g:C_z42z):Same (ypwy (@z42z_ g)) (abody (yR3y g) Tryz.f123 yJIy 1 [0] [.asis] g.N):=by intro args; unfold ypwy; split; exact .inr fun R k=>(by kernel_rfl); exact .inl fun R k=>rfl
theorem yDSy [Fuel]:Ok 123 (ypwy (@z42z _)):=yaay std (.cons yP3y .nil) ⟨rfl,rfl,by kernel_rfl,rfl,rfl,rfl⟩ (yN1y yxoy) (cuts0 (fun _=>rfl) (by kernel_rfl)) Tryz.func123 (by kernel_rfl) (by kernel_rfl)
abbrev yAOy:Type 1:=List G_Band→{R:Type}→(Int→Option R)→Option R
structure C_z15z where
 N:Nat
 kit_IsKey:ybhy
 z48z:ycmy
 z42z:yyay
def z15z_L4 (g:C_z15z):Nat→List G_Band→List G_Band→Int→Int→{R:Type}→(List G_Band→Int→Option R)→(List G_Band→Option R)→Option R
 | 0,_,_,_,_,_,_,_=>none
 | n + 1,v2,v3,v4,v5,_,e0,e1=>(bif (decide (v5 < v4)) then (get_ v3 v5 fun x11=>(g.kit_IsKey x11.f_Key (fun r12=>(bif (!r12) then e0 v2 5 else (g.z48z x11.f_Low 0 30000000000 (fun r13=>(bif r13 then e0 v2 1 else (g.z48z x11.f_High 0 30000000000 (fun r14=>(bif r14 then e0 v2 1 else (bif ((Int.tmod x11.f_Low 1000) != 0) then e0 v2 1 else (bif ((Int.tmod x11.f_High 1000) != 0) then e0 v2 1 else (bif (decide (x11.f_High≤x11.f_Low)) then e0 v2 1 else (bif (decide (v5 > 0)) then (get_ v2 (w64 (v5 - 1)) fun x15=>(bif (decide (x11.f_Low < x15.f_High)) then e0 v2 7 else z15z_L4 g n v2 v3 v4 (w64 (v5 + 1)) e0 e1)) else z15z_L4 g n v2 v3 v4 (w64 (v5 + 1)) e0 e1)))))))))))))) else e1 v2)
def z15z_L14 (g:C_z15z):Nat→List G_Band→List G_Band→Int→Int→{R:Type}→(Int→Option R)→Option R→Option R
 | 0,_,_,_,_,_,_,_=>none
 | n + 1,v19,v20,v21,v22,_,e0,e1=>(bif (decide (v22 < v21)) then (get_ v20 v22 fun x26=>(bif (decide (0≤v22) && decide (v22≤(v19.length:Int))) then (g.z42z (v19.take (v22:Int).toNat) x26 (fun r27 r28=>(bif r27 then e0 6 else z15z_L14 g n v19 v20 v21 (w64 (v22 + 1)) e0 e1))) else none)) else e1)
def z15z_ (g:C_z15z) (a1:List G_Band) {R:Type} (k0:Int→Option R):Option R :=
 (bif (decide ((a1.length:Int) > 30)) then k0 2 else (z15z_L4 g g.N a1 a1 (a1.length:Int) 0 (fun e16 e17=>k0 e17) (fun e18=>(z15z_L14 g g.N e18 e18 (e18.length:Int) 0 (fun e29=>k0 e29) (k0 0)))))
noncomputable def ybqy [Fuel]:C_z15z:=⟨NN,@kit_IsKey _,@z48z _,@z42z _⟩
noncomputable def z15z [Fuel]:yAOy:=@z15z_ ybqy
def ypcy (g:yAOy):Spec A:=fun args=>match args with | [.d (.sl 62 a1)]=>fun k=>g a1 (fun z0=>k (.d (.int .i64 z0)) [.undef]) | _=>fun _=>none
def ymqy:SSt:=mkSh 78 2 [(0,.sl 62),(10,.sl 62),(11,.int .i64),(12,.int .i64)] []
def ygcy (g:C_z15z) (n:Nat):LPT A:=fun ps=>match ps with | [.d (.sl 62 p1),.d (.sl 62 p2),.d (.int .i64 p3),.d (.int .i64 p4)]=>fun K=>z15z_L4 g n p1 p2 p3 p4 (fun z0 z1=>K .ret (mkSt 78 2 [(0,.d (.sl 62 z0)),(2,.d (.int .i64 z1))] [])) (fun z0=>K (.exit 0) (mkSt 78 2 [(0,.d (.sl 62 z0))] [])) | _=>fun _=>none
def yjKy:SSt:=mkSh 78 2 [(0,.sl 62),(65,.sl 62),(66,.int .i64),(67,.int .i64)] []
def yemy (g:C_z15z) (n:Nat):LPT A:=fun ps=>match ps with | [.d (.sl 62 p1),.d (.sl 62 p2),.d (.int .i64 p3),.d (.int .i64 p4)]=>fun K=>z15z_L14 g n p1 p2 p3 p4 (fun z0=>K .ret (mkSt 78 2 [(2,.d (.int .i64 z0))] [])) (K (.exit 3) (mkSt 78 2 [] [])) | _=>fun _=>none
noncomputable def yvey:Code:=(Tryz.f77.body).getD .skip
noncomputable def ykCy (g:C_z15z):Env A:=mkE [(62,yaUy g.kit_IsKey),(64,ybKy g.z48z),(123,ypwy g.z42z)] [(4,[0]),(6,[1])] [(4,⟨[0,10,11,12],[],[],[],[],[],[]⟩),(14,⟨[0,65,66,67],[],[],[],[],[],[]⟩)] [(4,⟨[0,2],[],[],[],[],[],[]⟩),(14,⟨[2],[],[],[],[],[],[]⟩)] [(4,yady ymqy (ygcy g g.N)),(14,yady yjKy (yemy g g.N))] [] [] [] [] []
theorem yEey [Fuel]:yahy (ykCy ybqy).C:=ct_of (P:=Tryz.prog) (T:=T) (.cons yaDy (.cons ybHy (.cons yDSy .nil))) (by kernel_rfl)
noncomputable def ytoy:Code:=sub [1,1,0,1,0,0] yvey
theorem yGWy (g:C_z15z) (n:Nat):yaiy (ykCy g) g.N ytoy ymqy (ygcy g) n:=by intro ps; unfold ygcy; split; exact .inr fun R K=>(by kernel_rfl); exact .inl fun R K=>rfl
theorem yEqy [Fuel]:yaby (ykCy ybqy) NN ytoy:=yacy ymqy (ygcy ybqy) (by kernel_rfl) yEey (cuts0 (fun _=>rfl) (by kernel_rfl)) (fun ps R K=>by unfold ygcy; split <;> (try unfold z15z_L4) <;> rfl) (yGWy ybqy)
noncomputable def yqey:Code:=sub [1,1,1,0,1,0,0] yvey
theorem yFmy (g:C_z15z) (n:Nat):yaiy (ykCy g) g.N yqey yjKy (yemy g) n:=by intro ps; unfold yemy; split; exact .inr fun R K=>(by kernel_rfl); exact .inl fun R K=>rfl
theorem yB8y [Fuel]:yaby (ykCy ybqy) NN yqey:=yacy yjKy (yemy ybqy) (by kernel_rfl) yEey (cuts0 (fun _=>rfl) (by kernel_rfl)) (fun ps R K=>by unfold yemy; split <;> (try unfold z15z_L14) <;> rfl) (yFmy ybqy)
theorem yMDy (g:C_z15z):Same (ypcy (@z15z_ g)) (abody (ykCy g) Tryz.f77 yvey 2 [] [.asis] g.N):=by intro args; unfold ypcy; split; exact .inr fun R k=>(by kernel_rfl); exact .inl fun R k=>rfl
theorem yPGy [Fuel]:Ok 77 (ypcy (@z15z _)):=yaay std (.cons yaDy (.cons ybHy (.cons yDSy .nil))) ⟨rfl,rfl,by kernel_rfl,rfl,rfl,rfl⟩ (yMDy ybqy) (cutsL (fun _=>rfl) (.cons yEqy (.cons yB8y .nil)) (by kernel_rfl)) Tryz.func77 (by kernel_rfl) (by kernel_rfl)
abbrev ytSy:Type 1:=List G_Band→List G_Spot→{R:Type}→(Int→Option R)→Option R
structure C_z89z where
 N:Nat
 z45z:ysuy
 z15z:yAOy
def z89z_ (g:C_z89z) (a1:List G_Band) (a2:List G_Spot) {R:Type} (k0:Int→Option R):Option R :=
 (g.z15z a1 (fun r3=>(bif (r3 != 0) then k0 r3 else (g.z45z a2 (fun r4=>k0 r4)))))
noncomputable def yxly [Fuel]:C_z89z:=⟨NN,@z45z _,@z15z _⟩
noncomputable def z89z [Fuel]:ytSy:=@z89z_ yxly
def ykyy (g:ytSy):Spec A:=fun args=>match args with | [.d (.sl 62 a1),.d (.sl 45 a2)]=>fun k=>g a1 a2 (fun z0=>k (.d (.int .i64 z0)) [.undef,.undef]) | _=>fun _=>none
noncomputable def yOsy:Code:=(Tryz.f41.body).getD .skip
noncomputable def yRMy (g:C_z89z):Env A:=mkE [(36,yk4y g.z45z),(77,ypcy g.z15z)] [] [] [] [] [] [] [] [] []
theorem yLuy (g:C_z89z):Same (ykyy (@z89z_ g)) (abody (yRMy g) Tryz.f41 yOsy 0 [] [.asis] g.N):=by intro args; unfold ykyy; split; exact .inr fun R k=>(by kernel_rfl); exact .inl fun R k=>rfl
theorem yuJy [Fuel]:Ok 41 (ykyy (@z89z _)):=yaay std (.cons yuVy (.cons yPGy .nil)) ⟨rfl,rfl,by kernel_rfl,rfl,rfl,rfl⟩ (yLuy yxly) (cuts0 (fun _=>rfl) (by kernel_rfl)) Tryz.func41 (by kernel_rfl) (by kernel_rfl)
abbrev ysRy:Type 1:=Int→Int→Int→{R:Type}→(Int→Option R)→Option R
structure C_z88z where
 N:Nat
 z48z:ycmy
 z71z:yfOy
def z88z_ (g:C_z88z) (a1 a2 a3:Int) {R:Type} (k0:Int→Option R):Option R :=
 (g.z48z a1 1 86400000 (fun r4=>(bif r4 then k0 1 else (g.z71z a2 (fun r5=>(bif (!r5) then k0 1 else (g.z48z a3 0 30000000000 (fun r6=>(bif r6 then k0 1 else k0 0)))))))))
noncomputable def yA5y [Fuel]:C_z88z:=⟨NN,@z48z _,@z71z _⟩
noncomputable def z88z [Fuel]:ysRy:=@z88z_ yA5y
def ykay (g:ysRy):Spec A:=fun args=>match args with | [.d (.int .i64 a1),.d (.int .i64 a2),.d (.int .i64 a3)]=>fun k=>g a1 a2 a3 (fun z0=>k (.d (.int .i64 z0)) [.undef,.undef,.undef]) | _=>fun _=>none
noncomputable def yLsy:Code:=(Tryz.f42.body).getD .skip
noncomputable def yQMy (g:C_z88z):Env A:=mkE [(64,ybKy g.z48z),(65,ydgy g.z71z)] [] [] [] [] [] [] [] [] []
theorem yO8y (g:C_z88z):Same (ykay (@z88z_ g)) (abody (yQMy g) Tryz.f42 yLsy 0 [] [.asis] g.N):=by intro args; unfold ykay; split; exact .inr fun R k=>(by kernel_rfl); exact .inl fun R k=>rfl
theorem yt9y [Fuel]:Ok 42 (ykay (@z88z _)):=yaay std (.cons ybHy (.cons yeTy .nil)) ⟨rfl,rfl,by kernel_rfl,rfl,rfl,rfl⟩ (yO8y yA5y) (cuts0 (fun _=>rfl) (by kernel_rfl)) Tryz.func42 (by kernel_rfl) (by kernel_rfl)
abbrev yuly:Type 1:=List G_Spot→{R:Type}→(List G_Spot→Option R)→Option R
def z102z_ (g:Nat) (a1:List G_Spot) {R:Type} (k0:List G_Spot→Option R):Option R :=
 k0 a1
noncomputable def z102z [Fuel]:yuly:=@z102z_ NN
def ymjy (g:yuly):Spec A:=fun args=>match args with | [.d (.sl 45 a1)]=>fun k=>g a1 (fun z0=>k (.fn 125 [.box [.d (.sl 45 z0)]]) [.undef]) | _=>fun _=>none
noncomputable def yNTy:Code:=(Tryz.f78.body).getD .skip
noncomputable def yOky (g:Nat):Env A:=mkE [] [(1,[0])] [] [] [] [] [] [] [] []
theorem yJxy (g:Nat):Same (ymjy (@z102z_ g)) (abody (yOky g) Tryz.f78 yNTy 1 [] [.asis] g):=by intro args; unfold ymjy; split; exact .inr fun R k=>(by kernel_rfl); exact .inl fun R k=>rfl
theorem yy0y [Fuel]:Ok 78 (ymjy (@z102z _)):=yaay std .nil ⟨rfl,rfl,by kernel_rfl,rfl,rfl,rfl⟩ (yJxy NN) (cuts0 (fun _=>rfl) (by kernel_rfl)) Tryz.func78 (by kernel_rfl) (by kernel_rfl)
abbrev ymdy:Type 1:=G_Band→Int→{R:Type}→(Bool→Int→Option R)→Option R
def ynSy (g:Nat) (a1:G_Band) (a2:Int) {R:Type} (k0:Bool→Int→Option R):Option R :=
 (bif (decide (a1.f_Low≤a2)) then k0 (decide (a2 < a1.f_High)) a2 else k0 false a2)
noncomputable def log_At_1 [Fuel]:ymdy:=@ynSy NN
def yhhy (g:ymdy):Spec A:=fun args=>match args with | [.agg [.d (.str a1),.d (.int .i64 a2),.d (.int .i64 a3)],.box [.d (.int .i64 a4)]]=>fun k=>g ⟨a1,a2,a3⟩ a4 (fun z0 z1=>k (.d (.bool z0)) [.undef,.box [.d (.int .i64 z1)]]) | _=>fun _=>none
noncomputable def yJgy:Code:=(Tryz.f127.body).getD .skip
noncomputable def yFny (g:Nat):Env A:=mkE [] [(2,[1])] [] [] [] [] [] [] [] [1]
theorem yBey (g:Nat):Same (yhhy (@ynSy g)) (abody (yFny g) Tryz.f127 yJgy 2 [0] [.asis] g):=by intro args; unfold yhhy; split; exact .inr fun R k=>(by kernel_rfl); exact .inl fun R k=>rfl
theorem yqsy [Fuel]:Ok 127 (yhhy (@log_At_1 _)):=yaay std .nil ⟨rfl,rfl,by kernel_rfl,rfl,rfl,rfl⟩ (yBey NN) (cuts0 (fun _=>rfl) (by kernel_rfl)) Tryz.func127 (by kernel_rfl) (by kernel_rfl)
abbrev yyry:Type 1:=List G_Band→Int→{R:Type}→(Int→Int→Option R)→Option R
structure C_z20z where
 N:Nat
 log_At_1:ymdy
def z20z_L2 (g:C_z20z):Nat→List G_Band→Int→Int→Int→{R:Type}→(Int→Int→Option R)→(Int→Option R)→Option R
 | 0,_,_,_,_,_,_,_=>none
 | n + 1,v3,v4,v5,v6,_,e0,e1=>(bif (decide (v5 < v4)) then (get_ v3 v5 fun x10=>(g.log_At_1 x10 v6 (fun r11 r12=>(bif r11 then e0 v5 r12 else z20z_L2 g n v3 v4 (w64 (v5 + 1)) r12 e0 e1)))) else e1 v6)
def z20z_ (g:C_z20z) (a1:List G_Band) (a2:Int) {R:Type} (k0:Int→Int→Option R):Option R :=
 (z20z_L2 g g.N a1 (a1.length:Int) 0 a2 (fun e13 e14=>k0 e13 e14) (fun e15=>k0 (-1) e15))
noncomputable def yizy [Fuel]:C_z20z:=⟨NN,@log_At_1 _⟩
noncomputable def z20z [Fuel]:yyry:=@z20z_ yizy
def ypRy (g:yyry):Spec A:=fun args=>match args with | [.d (.sl 62 a1),.fn 127 [.box [.d (.int .i64 a2)]]]=>fun k=>g a1 a2 (fun z0 z1=>k (.d (.int .i64 z0)) [.undef,.fn 127 [.box [.d (.int .i64 z1)]]]) | _=>fun _=>none
def yl9y:SSt:=mkSh 19 1 [(0,.sl 62),(1,.fn 127 [.ptr 0 0]),(7,.int .i64),(8,.int .i64)] [(0,.box [.int .i64])]
def yfIy (g:C_z20z) (n:Nat):LPT A:=fun ps=>match ps with | [.d (.sl 62 p1),.d (.int .i64 p2),.d (.int .i64 p3),.d (.int .i64 p4)]=>fun K=>z20z_L2 g n p1 p2 p3 p4 (fun z0 z1=>K .ret (mkSt 19 1 [(1,.fn 127 [.ptr 0 0]),(4,.d (.int .i64 z0))] [(0,some (.box [.d (.int .i64 z1)]))])) (fun z0=>K (.exit 0) (mkSt 19 1 [(1,.fn 127 [.ptr 0 0])] [(0,some (.box [.d (.int .i64 z0)]))])) | _=>fun _=>none
noncomputable def ysty (g:C_z20z):Env A:=mkE [(127,yhhy g.log_At_1)] [] [(2,⟨[0,1,7,8],[],[0],[],[],[],[]⟩)] [(2,⟨[1,4],[],[0],[],[],[],[]⟩)] [(2,yady yl9y (yfIy g g.N))] [] [] [] [] [1]
theorem yNsy [Fuel]:yahy (ysty yizy).C:=ct_of (P:=Tryz.prog) (T:=T) (.cons yqsy .nil) (by kernel_rfl)
noncomputable def yrpy:Code:=sub [1,0,1,0,0] yldy
theorem yGXy (g:C_z20z) (n:Nat):yaiy (ysty g) g.N yrpy yl9y (yfIy g) n:=by intro ps; unfold yfIy; split; exact .inr fun R K=>(by kernel_rfl); exact .inl fun R K=>rfl
theorem yFEy [Fuel]:yaby (ysty yizy) NN yrpy:=yacy yl9y (yfIy yizy) (by kernel_rfl) yNsy (cuts0 (fun _=>rfl) (by kernel_rfl)) (fun ps R K=>by unfold yfIy; split <;> (try unfold z20z_L2) <;> rfl) (yGXy yizy)
theorem yNMy (g:C_z20z):Same (ypRy (@z20z_ g)) (abody (ysty g) Tryz.f126 yldy 1 [0] [.asis] g.N):=by intro args; unfold ypRy; split; exact .inr fun R k=>(by kernel_rfl); exact .inl fun R k=>rfl
theorem yNNy [Fuel]:Ok 126 (ypRy (@z20z _)):=yaay std (.cons yqsy .nil) ⟨rfl,rfl,by kernel_rfl,rfl,rfl,rfl⟩ (yNMy yizy) (cutsL (fun _=>rfl) (.cons yFEy .nil) (by kernel_rfl)) Tryz.func126 (by kernel_rfl) (by kernel_rfl)
abbrev yrdy:Type 1:=List G_Band→Int→{R:Type}→(Int→Option R)→Option R
structure C_log_At where
 N:Nat
 z20z:yyry
def yuEy (g:C_log_At) (a1:List G_Band) (a2:Int) {R:Type} (k0:Int→Option R):Option R :=
 (g.z20z a1 a2 (fun r3 r4=>k0 r3))
noncomputable def yrfy [Fuel]:C_log_At:=⟨NN,@z20z _⟩
noncomputable def log_At [Fuel]:yrdy:=@yuEy yrfy
def yjmy (g:yrdy):Spec A:=fun args=>match args with | [.d (.sl 62 a1),.d (.int .i64 a2)]=>fun k=>g a1 a2 (fun z0=>k (.d (.int .i64 z0)) [.undef,.undef]) | _=>fun _=>none
noncomputable def yL5y:Code:=(Tryz.f79.body).getD .skip
noncomputable def yK2y (g:C_log_At):Env A:=mkE [(126,ypRy g.z20z)] [(3,[0])] [] [] [] [] [] [] [(126,0)] []
theorem yH8y (g:C_log_At):Same (yjmy (@yuEy g)) (abody (yK2y g) Tryz.f79 yL5y 1 [] [.asis] g.N):=by intro args; unfold yjmy; split; exact .inr fun R k=>(by kernel_rfl); exact .inl fun R k=>rfl
theorem yv2y [Fuel]:Ok 79 (yjmy (@log_At _)):=yaay std (.cons yNNy .nil) ⟨rfl,rfl,by kernel_rfl,rfl,rfl,rfl⟩ (yH8y yrfy) (cuts0 (fun _=>rfl) (by kernel_rfl)) Tryz.func79 (by kernel_rfl) (by kernel_rfl)
abbrev yzoy:Type 1:=List G_Spot→{R:Type}→(List G_Spot→Option R)→Option R
def z62z_L1 (g:Nat):Nat→Int→Int→List G_Spot→{R:Type}→(List G_Spot→Option R)→Option R
 | 0,_,_,_,_,_=>none
 | n + 1,v2,v3,v4,_,e0=>(bif (decide (v2 < v3)) then (inr v4 v3 (at_ v4 v3 fun x9=>(inr v4 v2 (at_ v4 v2 fun x10=>(inr v4 v2 (at_ v4 v2 fun x11=>(inr (set_ v4 v2 x9) v3 (at_ (set_ v4 v2 x9) v3 fun x12=>z62z_L1 g n (w64 (v2 + 1)) (w64 (v3 - 1)) (set_ (set_ v4 v2 x9) v3 x10) e0)))))))) else e0 v4)
def z62z_ (g:Nat) (a1:List G_Spot) {R:Type} (k0:List G_Spot→Option R):Option R :=
 (z62z_L1 g g 0 (w64 ((a1.length:Int) - 1)) a1 (fun e13=>k0 e13))
noncomputable def z62z [Fuel]:yzoy:=@z62z_ NN
def yoSy (g:yzoy):Spec A:=fun args=>match args with | [.arr 45 a1]=>fun k=>g a1 (fun z0=>k (.tup []) [.arr 45 z0]) | _=>fun _=>none
def ylsy:SSt:=mkSh 28 1 [(0,.own 45 0),(2,.int .i64),(3,.int .i64)] [(0,.row 45)]
def yfKy (g:Nat) (n:Nat):LPT A:=fun ps=>match ps with | [.d (.int .i64 p1),.d (.int .i64 p2),.d (.sl 45 p3)]=>fun K=>z62z_L1 g n p1 p2 p3 (fun z0=>K (.exit 0) (mkSt 28 1 [(0,.own 45 0)] [(0,some (.row 45 z0))])) | _=>fun _=>none
noncomputable def yEgy:Code:=(Tryz.f80.body).getD .skip
noncomputable def yrBy (g:Nat):Env A:=mkE [] [] [(1,⟨[0,2,3],[],[0],[],[],[],[]⟩)] [(1,⟨[0],[],[0],[],[],[],[]⟩)] [(1,yady ylsy (yfKy g g))] [] [] [] [] [0]
theorem yMgy [Fuel]:yahy (yrBy NN).C:=ct_of (P:=Tryz.prog) (T:=T) .nil (by kernel_rfl)
noncomputable def yrJy:Code:=sub [1,0,0] yEgy
theorem yIIy (g:Nat) (n:Nat):yaiy (yrBy g) g yrJy ylsy (yfKy g) n:=by intro ps; unfold yfKy; split; exact .inr fun R K=>(by kernel_rfl); exact .inl fun R K=>rfl
theorem yFXy [Fuel]:yaby (yrBy NN) NN yrJy:=yacy ylsy (yfKy NN) (by kernel_rfl) yMgy (cuts0 (fun _=>rfl) (by kernel_rfl)) (fun ps R K=>by unfold yfKy; split <;> (try unfold z62z_L1) <;> rfl) (yIIy NN)
theorem yL9y (g:Nat):Same (yoSy (@z62z_ g)) (abody (yrBy g) Tryz.f80 yEgy 1 [0] [] g):=by intro args; unfold yoSy; split; exact .inr fun R k=>(by kernel_rfl); exact .inl fun R k=>rfl
theorem yD3y [Fuel]:Ok 80 (yoSy (@z62z _)):=yaay std .nil ⟨rfl,rfl,by kernel_rfl,rfl,rfl,rfl⟩ (yL9y NN) (cutsL (fun _=>rfl) (.cons yFXy .nil) (by kernel_rfl)) Tryz.func80 (by kernel_rfl) (by kernel_rfl)
end Go.Am
