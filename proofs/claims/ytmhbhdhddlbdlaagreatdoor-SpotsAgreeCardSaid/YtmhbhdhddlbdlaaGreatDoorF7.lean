/- The functions of the program as Lean functions, each shown to be what the code computes, part 7. No condition: lemmas for the claim. -/
import Derived.Test.YtmhbhdhddlbdlaaGreatDoorF0
import Derived.Test.YtmhbhdhddlbdlaaGreatDoorFSh
import Derived.Test.YtmhbhdhddlbdlaaGreatDoorF1
import Derived.Test.YtmhbhdhddlbdlaaGreatDoorF4
import Derived.Test.YtmhbhdhddlbdlaaGreatDoorF6
set_option linter.unusedVariables false
set_option maxRecDepth 100000
namespace Go.Am
open Go Go.Proofs
abbrev ywWy:Type 1:=G_Segment→G_Segment→{R:Type}→(Int→Option R)→Option R
structure C_z54z where
 N:Nat
 z20z:ygXy
 z14z:ygLy
 strings_Compare:yaYy
def z54z_ (g:C_z54z) (a1 a2:G_Segment) {R:Type} (k0:Int→Option R):Option R :=
 (g.strings_Compare a1.f_Class a2.f_Class (fun r3=>(g.z14z a1.f_Low a2.f_Low (fun r4=>(g.z14z a1.f_High a2.f_High (fun r5=>(g.z14z a1.f_Time.f_From a2.f_Time.f_From (fun r6=>(g.z20z [r3,r4,r5,r6] (fun r7=>k0 r7))))))))))
noncomputable def ytXy [Fuel]:C_z54z:=⟨NN,@z20z _,@z14z _,@strings_Compare _⟩
noncomputable def z54z [Fuel]:ywWy:=@z54z_ ytXy
def ynwy (g:ywWy):Spec A:=fun args=>match args with | [.agg [.d (.str a1),.d (.int .i64 a2),.d (.int .i64 a3),.d (.sl 3 a4),.d (.int .i64 a5),.d (.int .i64 a6)],.agg [.d (.str a7),.d (.int .i64 a8),.d (.int .i64 a9),.d (.sl 3 a10),.d (.int .i64 a11),.d (.int .i64 a12)]]=>fun k=>g ⟨a1,a2,a3,a4,⟨a5,a6⟩⟩ ⟨a7,a8,a9,a10,⟨a11,a12⟩⟩ (fun z0=>k (.d (.int .i64 z0)) [.undef,.undef]) | _=>fun _=>none
noncomputable def yFhy:Code:=(Tryz.f136.body).getD .skip
noncomputable def yKAy (g:C_z54z):Env A:=mkE [(68,ybCy g.z20z),(69,ybDy g.z14z),(70,yaBy g.strings_Compare)] [(2,[0]),(3,[1]),(27,[2])] [] [] [] [] [] [] [] []
theorem yH1y (g:C_z54z):Same (ynwy (@z54z_ g)) (abody (yKAy g) Tryz.f136 yFhy 3 [] [.asis] g.N):=by intro args; unfold ynwy; split; exact .inr fun R k=>(by kernel_rfl); exact .inl fun R k=>rfl
theorem yzRy [Fuel]:Ok 136 (ynwy (@z54z _)):=yaay std (.cons ygdy (.cons ygby (.cons ya7y .nil))) ⟨rfl,rfl,by kernel_rfl,rfl,rfl,rfl⟩ (yH1y ytXy) (cuts0 (fun _=>rfl) (by kernel_rfl)) Tryz.func136 (by kernel_rfl) (by kernel_rfl)
abbrev ytMy:Type 1:=List G_Segment→{R:Type}→(Int→Option R)→Option R
structure C_z19z where
 N:Nat
 kit_IsKey:ybsy
 z27z:yuuy
 kit_IsTime:yh5y
 z54z:ywWy
def z19z_L4 (g:C_z19z):Nat→List G_Segment→List G_Segment→Int→Int→{R:Type}→(Int→Option R)→Option R→Option R
 | 0,_,_,_,_,_,_,_=>none
 | n + 1,v2,v3,v4,v5,_,e0,e1=>(bif (decide (v5 < v4)) then (get_ v3 v5 fun x12=>(g.kit_IsKey x12.f_Class (fun r13=>(bif (!r13) then e0 5 else (bif (decide (x12.f_Low < 0)) then e0 1 else (bif (decide (x12.f_Low ≥ x12.f_High)) then e0 1 else (bif (decide (x12.f_High > 30000000000)) then e0 1 else (g.z27z x12.f_Modes (fun r14=>(bif (r14 != 0) then e0 r14 else (g.kit_IsTime x12.f_Time (fun r15=>(bif (!r15) then e0 1 else (bif (decide (v5 > 0)) then (get_ v2 (w64 (v5 - 1)) fun x16=>(g.z54z x16 x12 (fun r17=>(bif (decide (r17 ≥ 0)) then e0 7 else z19z_L4 g n v2 v3 v4 (w64 (v5 + 1)) e0 e1)))) else z19z_L4 g n v2 v3 v4 (w64 (v5 + 1)) e0 e1)))))))))))))) else e1)
def z19z_ (g:C_z19z) (a1:List G_Segment) {R:Type} (k0:Int→Option R):Option R :=
 (bif (decide ((a1.length:Int) > 500)) then k0 2 else (z19z_L4 g g.N a1 a1 (a1.length:Int) 0 (fun e18=>k0 e18) (k0 0)))
noncomputable def ydpy [Fuel]:C_z19z:=⟨NN,@kit_IsKey _,@z27z _,@kit_IsTime _,@z54z _⟩
noncomputable def z19z [Fuel]:ytMy:=@z19z_ ydpy
def ynIy (g:ytMy):Spec A:=fun args=>match args with | [.d (.sl 92 a1)]=>fun k=>g a1 (fun z0=>k (.d (.int .i64 z0)) [.undef]) | _=>fun _=>none
def ykmy:SSt:=mkSh 58 1 [(0,.sl 92),(9,.sl 92),(10,.int .i64),(11,.int .i64)] []
def yeYy (g:C_z19z) (n:Nat):LPT A:=fun ps=>match ps with | [.d (.sl 92 p1),.d (.sl 92 p2),.d (.int .i64 p3),.d (.int .i64 p4)]=>fun K=>z19z_L4 g n p1 p2 p3 p4 (fun z0=>K .ret (mkSt 58 1 [(2,.d (.int .i64 z0))] [])) (K (.exit 0) (mkSt 58 1 [] [])) | _=>fun _=>none
noncomputable def yzty:Code:=(Tryz.f79.body).getD .skip
noncomputable def ypTy (g:C_z19z):Env A:=mkE [(80,ya9y g.kit_IsKey),(134,ym1y g.z27z),(135,yd1y g.kit_IsTime),(136,ynwy g.z54z)] [(4,[0])] [(4,⟨[0,9,10,11],[],[],[],[],[],[]⟩)] [(4,⟨[2],[],[],[],[],[],[]⟩)] [(4,yafy ykmy (yeYy g g.N))] [] [] [] [] []
theorem yG8y [Fuel]:yagy (ypTy ydpy).C:=ct_of (P:=Tryz.prog) (T:=T) (.cons yaRy (.cons yzIy (.cons yluy (.cons yzRy .nil)))) (by kernel_rfl)
noncomputable def ypPy:Code:=sub [1,1,0,1,0,0] yzty
theorem yB1y (g:C_z19z) (n:Nat):yaly (ypTy g) g.N ypPy ykmy (yeYy g) n:=by intro ps; unfold yeYy; split; exact .inr fun R K=>(by kernel_rfl); exact .inl fun R K=>rfl
theorem yALy [Fuel]:yaey (ypTy ydpy) NN ypPy:=yahy ykmy (yeYy ydpy) (by kernel_rfl) yG8y (cuts0 (fun _=>rfl) (by kernel_rfl)) (fun ps R K=>by unfold yeYy; split <;> (try unfold z19z_L4) <;> rfl) (yB1y ydpy)
theorem yGLy (g:C_z19z):Same (ynIy (@z19z_ g)) (abody (ypTy g) Tryz.f79 yzty 1 [] [.asis] g.N):=by intro args; unfold ynIy; split; exact .inr fun R k=>(by kernel_rfl); exact .inl fun R k=>rfl
theorem yHQy [Fuel]:Ok 79 (ynIy (@z19z _)):=yaay std (.cons yaRy (.cons yzIy (.cons yluy (.cons yzRy .nil)))) ⟨rfl,rfl,by kernel_rfl,rfl,rfl,rfl⟩ (yGLy ydpy) (cutsL (fun _=>rfl) (.cons yALy .nil) (by kernel_rfl)) Tryz.func79 (by kernel_rfl) (by kernel_rfl)
abbrev yi6y:Type 1:=Int→Int→{R:Type}→(G_Row→Option R)→Option R
def yp7y (g:Nat) (a1 a2:Int) {R:Type} (k0:G_Row→Option R):Option R :=
 k0 (⟨(w64 (a1 - (w64 (Int.tdiv a2 2)))),(w64 ((w64 (a1 - (w64 (Int.tdiv a2 2)))) + a2))⟩:G_Row)
noncomputable def band_used [Fuel]:yi6y:=@yp7y NN
def yfGy (g:yi6y):Spec A:=fun args=>match args with | [.d (.int .i64 a1),.d (.int .i64 a2)]=>fun k=>g a1 a2 (fun z0=>k (.agg [.d (.int .i64 z0.f_From),.d (.int .i64 z0.f_To)]) [.undef,.undef]) | _=>fun _=>none
noncomputable def yIYy:Code:=(Tryz.f82.body).getD .skip
noncomputable def yx6y (g:Nat):Env A:=mkE [] [(4,[0])] [] [] [] [] [] [] [] []
theorem ywSy (g:Nat):Same (yfGy (@yp7y g)) (abody (yx6y g) Tryz.f82 yIYy 1 [] [.asis] g):=by intro args; unfold yfGy; split; exact .inr fun R k=>(by kernel_rfl); exact .inl fun R k=>rfl
theorem ytWy [Fuel]:Ok 82 (yfGy (@band_used _)):=yaay std .nil ⟨rfl,rfl,by kernel_rfl,rfl,rfl,rfl⟩ (ywSy NN) (cuts0 (fun _=>rfl) (by kernel_rfl)) Tryz.func82 (by kernel_rfl) (by kernel_rfl)
abbrev ymoy:Type 1:=G_Window→Int→{R:Type}→(Bool→Option R)→Option R
def yoWy (g:Nat) (a1:G_Window) (a2:Int) {R:Type} (k0:Bool→Option R):Option R :=
 (bif (decide (a1.f_From≤a2)) then k0 (decide (a2 < a1.f_To)) else k0 false)
noncomputable def kit_Has [Fuel]:ymoy:=@yoWy NN
def yhey (g:ymoy):Spec A:=fun args=>match args with | [.agg [.d (.int .i64 a1),.d (.int .i64 a2)],.d (.int .i64 a3)]=>fun k=>g ⟨a1,a2⟩ a3 (fun z0=>k (.d (.bool z0)) [.undef,.undef]) | _=>fun _=>none
noncomputable def yFMy:Code:=(Tryz.f140.body).getD .skip
noncomputable def yCny (g:Nat):Env A:=mkE [] [(2,[0])] [] [] [] [] [] [] [] []
theorem yANy (g:Nat):Same (yhey (@yoWy g)) (abody (yCny g) Tryz.f140 yFMy 1 [] [.asis] g):=by intro args; unfold yhey; split; exact .inr fun R k=>(by kernel_rfl); exact .inl fun R k=>rfl
theorem yqyy [Fuel]:Ok 140 (yhey (@kit_Has _)):=yaay std .nil ⟨rfl,rfl,by kernel_rfl,rfl,rfl,rfl⟩ (yANy NN) (cuts0 (fun _=>rfl) (by kernel_rfl)) Tryz.func140 (by kernel_rfl) (by kernel_rfl)
abbrev yvHy:Type 1:=List Int→Int→{R:Type}→(Int→Option R)→Option R
def z44z_L2 (g:Nat):Nat→List Int→Int→Int→Int→{R:Type}→(Int→Option R)→Option R→Option R
 | 0,_,_,_,_,_,_,_=>none
 | n + 1,v3,v4,v5,v6,_,e0,e1=>(bif (decide (v6 < v5)) then (get_ v3 v6 fun x8=>(bif (v4 == x8) then e0 v6 else z44z_L2 g n v3 v4 v5 (w64 (v6 + 1)) e0 e1)) else e1)
def z44z_ (g:Nat) (a1:List Int) (a2:Int) {R:Type} (k0:Int→Option R):Option R :=
 (z44z_L2 g g a1 a2 (a1.length:Int) 0 (fun e9=>k0 e9) (k0 (-1)))
noncomputable def z44z [Fuel]:yvHy:=@z44z_ NN
def ym2y (g:yvHy):Spec A:=fun args=>match args with | [.d (.sl 3 a1),.d (.int .i64 a2)]=>fun k=>g a1 a2 (fun z0=>k (.d (.int .i64 z0)) [.undef,.undef]) | _=>fun _=>none
def ykny:SSt:=mkSh 19 0 [(0,.sl 3),(1,.int .i64),(7,.int .i64),(8,.int .i64)] []
def yfMy (g:Nat) (n:Nat):LPT A:=fun ps=>match ps with | [.d (.sl 3 p1),.d (.int .i64 p2),.d (.int .i64 p3),.d (.int .i64 p4)]=>fun K=>z44z_L2 g n p1 p2 p3 p4 (fun z0=>K .ret (mkSt 19 0 [(4,.d (.int .i64 z0))] [])) (K (.exit 0) (mkSt 19 0 [] [])) | _=>fun _=>none
noncomputable def yv4y:Code:=(Tryz.f204.body).getD .skip
noncomputable def yq8y (g:Nat):Env A:=mkE [] [] [(2,⟨[0,1,7,8],[],[],[],[],[],[]⟩)] [(2,⟨[4],[],[],[],[],[],[]⟩)] [(2,yafy ykny (yfMy g g))] [] [] [] [] []
theorem yGIy [Fuel]:yagy (yq8y NN).C:=ct_of (P:=Tryz.prog) (T:=T) .nil (by kernel_rfl)
noncomputable def yqey:Code:=sub [1,0,1,0,0] yv4y
theorem yCfy (g:Nat) (n:Nat):yaly (yq8y g) g yqey ykny (yfMy g) n:=by intro ps; unfold yfMy; split; exact .inr fun R K=>(by kernel_rfl); exact .inl fun R K=>rfl
theorem yAGy [Fuel]:yaey (yq8y NN) NN yqey:=yahy ykny (yfMy NN) (by kernel_rfl) yGIy (cuts0 (fun _=>rfl) (by kernel_rfl)) (fun ps R K=>by unfold yfMy; split <;> (try unfold z44z_L2) <;> rfl) (yCfy NN)
theorem yHAy (g:Nat):Same (ym2y (@z44z_ g)) (abody (yq8y g) Tryz.f204 yv4y 0 [] [.asis] g):=by intro args; unfold ym2y; split; exact .inr fun R k=>(by kernel_rfl); exact .inl fun R k=>rfl
theorem yIQy [Fuel]:Ok 204 (ym2y (@z44z _)):=yaay std .nil ⟨rfl,rfl,by kernel_rfl,rfl,rfl,rfl⟩ (yHAy NN) (cutsL (fun _=>rfl) (.cons yAGy .nil) (by kernel_rfl)) Tryz.func204 (by kernel_rfl) (by kernel_rfl)
abbrev yuHy:Type 1:=List Int→Int→{R:Type}→(Bool→Option R)→Option R
structure C_z53z where
 N:Nat
 z44z:yvHy
def z53z_ (g:C_z53z) (a1:List Int) (a2:Int) {R:Type} (k0:Bool→Option R):Option R :=
 (g.z44z a1 a2 (fun r3=>k0 (decide (r3 ≥ 0))))
noncomputable def ywry [Fuel]:C_z53z:=⟨NN,@z44z _⟩
noncomputable def z53z [Fuel]:yuHy:=@z53z_ ywry
def ynny (g:yuHy):Spec A:=fun args=>match args with | [.d (.sl 3 a1),.d (.int .i64 a2)]=>fun k=>g a1 a2 (fun z0=>k (.d (.bool z0)) [.undef,.undef]) | _=>fun _=>none
noncomputable def yEvy:Code:=(Tryz.f139.body).getD .skip
noncomputable def yKdy (g:C_z53z):Env A:=mkE [(204,ym2y g.z44z)] [] [] [] [] [] [] [] [] []
theorem yIEy (g:C_z53z):Same (ynny (@z53z_ g)) (abody (yKdy g) Tryz.f139 yEvy 0 [] [.asis] g.N):=by intro args; unfold ynny; split; exact .inr fun R k=>(by kernel_rfl); exact .inl fun R k=>rfl
theorem yyLy [Fuel]:Ok 139 (ynny (@z53z _)):=yaay std (.cons yIQy .nil) ⟨rfl,rfl,by kernel_rfl,rfl,rfl,rfl⟩ (yIEy ywry) (cuts0 (fun _=>rfl) (by kernel_rfl)) Tryz.func139 (by kernel_rfl) (by kernel_rfl)
abbrev yBKy:Type 1:=G_Row→G_Row→{R:Type}→(Int→Option R)→Option R
def z46z_ (g:Nat) (a1 a2:G_Row) {R:Type} (k0:Int→Option R):Option R :=
 k0 (w64 (a1.f_From - a2.f_From))
noncomputable def z46z [Fuel]:yBKy:=@z46z_ NN
def yfTy (g:yBKy):Spec A:=fun args=>match args with | [.agg [.d (.int .i64 a1),.d (.int .i64 a2)],.agg [.d (.int .i64 a3),.d (.int .i64 a4)]]=>fun k=>g ⟨a1,a2⟩ ⟨a3,a4⟩ (fun z0=>k (.d (.int .i64 z0)) [.undef,.undef]) | _=>fun _=>none
noncomputable def yvoy:Code:=(Tryz.f206.body).getD .skip
noncomputable def yKYy (g:Nat):Env A:=mkE [] [(2,[0]),(3,[1])] [] [] [] [] [] [] [] []
theorem yGBy (g:Nat):Same (yfTy (@z46z_ g)) (abody (yKYy g) Tryz.f206 yvoy 2 [] [.asis] g):=by intro args; unfold yfTy; split; exact .inr fun R k=>(by kernel_rfl); exact .inl fun R k=>rfl
theorem ok_z46z [Fuel]:Ok 206 (yfTy (@z46z _)):=yaay std .nil ⟨rfl,rfl,by kernel_rfl,rfl,rfl,rfl⟩ (yGBy NN) (cuts0 (fun _=>rfl) (by kernel_rfl)) Tryz.func206 (by kernel_rfl) (by kernel_rfl)
noncomputable def yGey (g:Nat):Env A:=mkED [] [(2,[0]),(3,[1])] [] [] [] [] [] [] [] []
theorem yFUy (g:Nat):Same (yfTy (@z46z_ g)) (abody (yGey g) Tryz.f206 yvoy 2 [] [.asis] g):=by intro args; unfold yfTy; split; exact .inr fun R k=>(by kernel_rfl); exact .inl fun R k=>rfl
theorem yxky [Fuel]:OkD 206 (yfTy (@z46z _)):=yaay stdD .nil ⟨rfl,rfl,by kernel_rfl,rfl,rfl,rfl⟩ (yFUy NN) (cuts0 (fun _=>rfl) (by kernel_rfl)) Tryz.func206 (by kernel_rfl) (by kernel_rfl)
abbrev yuqy:Type 1:=List G_Row→{R:Type}→(List G_Row→Option R)→Option R
noncomputable def z40z [Fuel]:yuqy:=@yboy G_Row (@z46z _)
def yjIy (g:yuqy):Spec A:=fun args=>match args with | [.arr 134 a1,.fn 206 []]=>fun k=>g a1 (fun z=>k (.tup []) [.arr 134 z,.fn 206 []]) | _=>fun _=>none
theorem yzoy [Fuel] (xs:List (A 134)) (R:Type) (k:IV A→List (IV A)→Option R):yjIy (@z40z _) [.arr 134 xs,.fn 206 []] k = yboy (α:=A 134) (@z46z _) xs (fun z=>k (.tup []) [.arr 134 z,.fn 206 []]):=by kernel_rfl
theorem yzLy [Fuel] (args:List (IV A)) (R:Type) (k:IV A→List (IV A)→Option R) (h:∀ xs:List (A 134),args ≠ [.arr 134 xs,.fn 206 []]):yjIy (@z40z _) args k = none:=by unfold yjIy; split; exact absurd rfl (h _); rfl
theorem yIRy [Fuel] (x y:A 134) (R:Type) (k:Int→Option R):yjXy T (yfTy (@z46z _)) 134 x y k = @z46z _ x y R k:=by kernel_rfl
theorem yGZy (x:G_Row):(ykOy x).all scal = true:=rfl
theorem yyoy [Fuel]:Ok 205 (yjIy (@z40z _)):=⟨ygfy (tyOk Tryz.prog) (e:=134) Tryz.sortf205 Tryz.isAgg134 Tryz.sizeOf134 (fun x d hd=>List.all_eq_true.1 (yGZy x) d hd) yIRy yxky.fs yxky.en yzoy yzLy,ykgy (e:=134) yzoy yzLy,enters_of (fn:=Tryz.f205) Tryz.func205 (by kernel_rfl) (by kernel_rfl)⟩
abbrev yujy:Type 1:=List G_Row→{R:Type}→(List G_Row→Option R)→Option R
structure C_z11z where
 N:Nat
 z40z:yuqy
def z11z_L4 (g:C_z11z):Nat→Int→Int→List G_Row→List G_Row→{R:Type}→(List G_Row→Option R)→Option R
 | 0,_,_,_,_,_,_=>none
 | n + 1,v3,v4,v5,v6,_,e0=>(bif (decide (v4 < v3)) then (inr v5 v4 (at_ v5 v4 fun x11=>(bif (decide ((w64 ((v6.length:Int) - 1)) ≥ 0)) then (inr v6 (w64 ((v6.length:Int) - 1)) (at_ v6 (w64 ((v6.length:Int) - 1)) fun x12=>(bif (decide (x11.f_From≤x12.f_To)) then (inr v6 (w64 ((v6.length:Int) - 1)) (at_ v6 (w64 ((v6.length:Int) - 1)) fun x13=>(inr v6 (w64 ((v6.length:Int) - 1)) (at_ v6 (w64 ((v6.length:Int) - 1)) fun x14=>z11z_L4 g n v3 (w64 (v4 + 1)) v5 (set_ v6 (w64 ((v6.length:Int) - 1)) (⟨x14.f_From,(if x11.f_To > x13.f_To then x11.f_To else x13.f_To)⟩:G_Row)) e0)))) else (bif (decide ((v6.length + [x11].length) * 16≤yaiy)) then z11z_L4 g n v3 (w64 (v4 + 1)) v5 (v6 ++ [x11]) e0 else none)))) else (bif (decide ((v6.length + [x11].length) * 16≤yaiy)) then z11z_L4 g n v3 (w64 (v4 + 1)) v5 (v6 ++ [x11]) e0 else none)))) else e0 v6)
def z11z_ (g:C_z11z) (a1:List G_Row) {R:Type} (k0:List G_Row→Option R):Option R :=
 (g.z40z a1 (fun r2=>(z11z_L4 g g.N (r2.length:Int) 0 r2 [] (fun e15=>k0 e15))))
noncomputable def ycBy [Fuel]:C_z11z:=⟨NN,@z40z _⟩
noncomputable def z11z [Fuel]:yujy:=@z11z_ ycBy
def ymRy (g:yujy):Spec A:=fun args=>match args with | [.arr 134 a1]=>fun k=>g a1 (fun z0=>k (.arr 134 z0) [.undef]) | _=>fun _=>none
def ykly:SSt:=mkSh 48 5 [(3,.own 134 1),(9,.own 134 0),(10,.int .i64),(11,.int .i64)] [(0,.row 134),(1,.row 134)]
def yfly (g:C_z11z) (n:Nat):LPT A:=fun ps=>match ps with | [.d (.int .i64 p1),.d (.int .i64 p2),.d (.sl 134 p3),.d (.sl 134 p4)]=>fun K=>z11z_L4 g n p1 p2 p3 p4 (fun z0=>K (.exit 0) (mkSt 48 5 [(3,.own 134 1)] [(1,some (.row 134 z0))])) | _=>fun _=>none
noncomputable def yuiy:Code:=(Tryz.f141.body).getD .skip
noncomputable def yp0y (g:C_z11z):Env A:=mkE [(205,yjIy g.z40z)] [(5,[2]),(44,[3]),(45,[4])] [(4,⟨[3,9,10,11],[(3,134,1)],[0],[],[],[],[]⟩)] [(4,⟨[3],[],[1],[],[],[],[]⟩)] [(4,yafy ykly (yfly g g.N))] [] [] [] [(205,0)] []
theorem yIwy [Fuel]:yagy (yp0y ycBy).C:=ct_of (P:=Tryz.prog) (T:=T) (.cons yyoy .nil) (by kernel_rfl)
noncomputable def ypny:Code:=sub [1,1,1,0,1,0,0] yuiy
theorem yC0y (g:C_z11z) (n:Nat):yaly (yp0y g) g.N ypny ykly (yfly g) n:=by intro ps; unfold yfly; split; exact .inr fun R K=>(by kernel_rfl); exact .inl fun R K=>rfl
theorem yAXy [Fuel]:yaey (yp0y ycBy) NN ypny:=yahy ykly (yfly ycBy) (by kernel_rfl) yIwy (cuts0 (fun _=>rfl) (by kernel_rfl)) (fun ps R K=>by unfold yfly; split <;> (try unfold z11z_L4) <;> rfl) (yC0y ycBy)
theorem yHMy (g:C_z11z):Same (ymRy (@z11z_ g)) (abody (yp0y g) Tryz.f141 yuiy 5 [0] [.arr 134] g.N):=by intro args; unfold ymRy; split; exact .inr fun R k=>(by kernel_rfl); exact .inl fun R k=>rfl
theorem yzky [Fuel]:Ok 141 (ymRy (@z11z _)):=yaay std (.cons yyoy .nil) ⟨rfl,rfl,by kernel_rfl,rfl,rfl,rfl⟩ (yHMy ycBy) (cutsL (fun _=>rfl) (.cons yAXy .nil) (by kernel_rfl)) Tryz.func141 (by kernel_rfl) (by kernel_rfl)
abbrev yvyy:Type 1:=List G_Segment→List UInt8→Int→Int→{R:Type}→(List G_Row→Option R)→Option R
structure C_z28z where
 N:Nat
 z53z:yuHy
 kit_Has:ymoy
 z11z:yujy
def z28z_L3 (g:C_z28z):Nat→List UInt8→Int→Int→List G_Segment→Int→Int→List G_Row→{R:Type}→(List G_Row→Option R)→Option R
 | 0,_,_,_,_,_,_,_,_,_=>none
 | n + 1,v5,v6,v7,v8,v9,v10,v11,_,e0=>(bif (decide (v10 < v9)) then (get_ v8 v10 fun x16=>(bif (x16.f_Class == v5) then (bif (v6 == 0) then (g.kit_Has x16.f_Time v7 (fun r17=>(bif r17 then (bif (decide ((v11.length + [(⟨x16.f_Low,x16.f_High⟩:G_Row)].length) * 16≤yaiy)) then z28z_L3 g n v5 v6 v7 v8 v9 (w64 (v10 + 1)) (v11 ++ [(⟨x16.f_Low,x16.f_High⟩:G_Row)]) e0 else none) else z28z_L3 g n v5 v6 v7 v8 v9 (w64 (v10 + 1)) v11 e0))) else (g.z53z x16.f_Modes v6 (fun r18=>(bif r18 then (g.kit_Has x16.f_Time v7 (fun r19=>(bif r19 then (bif (decide ((v11.length + [(⟨x16.f_Low,x16.f_High⟩:G_Row)].length) * 16≤yaiy)) then z28z_L3 g n v5 v6 v7 v8 v9 (w64 (v10 + 1)) (v11 ++ [(⟨x16.f_Low,x16.f_High⟩:G_Row)]) e0 else none) else z28z_L3 g n v5 v6 v7 v8 v9 (w64 (v10 + 1)) v11 e0))) else z28z_L3 g n v5 v6 v7 v8 v9 (w64 (v10 + 1)) v11 e0)))) else z28z_L3 g n v5 v6 v7 v8 v9 (w64 (v10 + 1)) v11 e0)) else e0 v11)
def z28z_ (g:C_z28z) (a1:List G_Segment) (a2:List UInt8) (a3 a4:Int) {R:Type} (k0:List G_Row→Option R):Option R :=
 (z28z_L3 g g.N a2 a3 a4 a1 (a1.length:Int) 0 [] (fun e20=>(g.z11z e20 (fun r21=>k0 r21))))
noncomputable def ycVy [Fuel]:C_z28z:=⟨NN,@z53z _,@kit_Has _,@z11z _⟩
noncomputable def z28z [Fuel]:yvyy:=@z28z_ ycVy
def ynEy (g:yvyy):Spec A:=fun args=>match args with | [.d (.sl 92 a1),.d (.str a2),.d (.int .i64 a3),.d (.int .i64 a4)]=>fun k=>g a1 a2 a3 a4 (fun z0=>k (.arr 134 z0) [.undef,.undef,.undef,.undef]) | _=>fun _=>none
def yj6y:SSt:=mkSh 49 5 [(1,.str),(2,.int .i64),(3,.int .i64),(9,.own 134 0),(12,.sl 92),(13,.int .i64),(14,.int .i64)] [(0,.row 134)]
def ye7y (g:C_z28z) (n:Nat):LPT A:=fun ps=>match ps with | [.d (.str p1),.d (.int .i64 p2),.d (.int .i64 p3),.d (.sl 92 p4),.d (.int .i64 p5),.d (.int .i64 p6),.d (.sl 134 p7)]=>fun K=>z28z_L3 g n p1 p2 p3 p4 p5 p6 p7 (fun z0=>K (.exit 0) (mkSt 49 5 [(9,.own 134 0)] [(0,some (.row 134 z0))])) | _=>fun _=>none
noncomputable def yzFy:Code:=(Tryz.f84.body).getD .skip
noncomputable def yqoy (g:C_z28z):Env A:=mkE [(139,ynny g.z53z),(140,yhey g.kit_Has),(141,ymRy g.z11z)] [(11,[1]),(44,[2]),(45,[3]),(48,[4])] [(3,⟨[1,2,3,9,12,13,14],[(9,134,0)],[],[],[],[],[]⟩)] [(3,⟨[9],[],[0],[],[],[],[]⟩)] [(3,yafy yj6y (ye7y g g.N))] [] [] [] [(141,0)] []
theorem yIpy [Fuel]:yagy (yqoy ycVy).C:=ct_of (P:=Tryz.prog) (T:=T) (.cons yyLy (.cons yqyy (.cons yzky .nil))) (by kernel_rfl)
noncomputable def ypFy:Code:=sub [1,1,0,1,0,0] yzFy
theorem yBQy (g:C_z28z) (n:Nat):yaly (yqoy g) g.N ypFy yj6y (ye7y g) n:=by intro ps; unfold ye7y; split; exact .inr fun R K=>(by kernel_rfl); exact .inl fun R K=>rfl
theorem yAwy [Fuel]:yaey (yqoy ycVy) NN ypFy:=yahy yj6y (ye7y ycVy) (by kernel_rfl) yIpy (cuts0 (fun _=>rfl) (by kernel_rfl)) (fun ps R K=>by unfold ye7y; split <;> (try unfold z28z_L3) <;> rfl) (yBQy ycVy)
theorem yGjy (g:C_z28z):Same (ynEy (@z28z_ g)) (abody (yqoy g) Tryz.f84 yzFy 5 [] [.arr 134] g.N):=by intro args; unfold ynEy; split; exact .inr fun R k=>(by kernel_rfl); exact .inl fun R k=>rfl
theorem yIIy [Fuel]:Ok 84 (ynEy (@z28z _)):=yaay std (.cons yyLy (.cons yqyy (.cons yzky .nil))) ⟨rfl,rfl,by kernel_rfl,rfl,rfl,rfl⟩ (yGjy ycVy) (cutsL (fun _=>rfl) (.cons yAwy .nil) (by kernel_rfl)) Tryz.func84 (by kernel_rfl) (by kernel_rfl)
abbrev yiey:Type 1:=G_Row→G_Row→{R:Type}→(Bool→G_Row→Option R)→Option R
def yiWy (g:Nat) (a1 a2:G_Row) {R:Type} (k0:Bool→G_Row→Option R):Option R :=
 (bif (decide (a1.f_From≤a2.f_From)) then k0 (decide (a2.f_To≤a1.f_To)) a2 else k0 false a2)
noncomputable def band_May_1 [Fuel]:yiey:=@yiWy NN
def yeey (g:yiey):Spec A:=fun args=>match args with | [.agg [.d (.int .i64 a1),.d (.int .i64 a2)],.box [.d (.int .i64 a3),.d (.int .i64 a4)]]=>fun k=>g ⟨a1,a2⟩ ⟨a3,a4⟩ (fun z0 z1=>k (.d (.bool z0)) [.undef,.box [.d (.int .i64 z1.f_From),.d (.int .i64 z1.f_To)]]) | _=>fun _=>none
noncomputable def yJxy:Code:=(Tryz.f85.body).getD .skip
noncomputable def yw0y (g:Nat):Env A:=mkE [] [(2,[1])] [] [] [] [] [] [] [] [1]
theorem ytgy (g:Nat):Same (yeey (@yiWy g)) (abody (yw0y g) Tryz.f85 yJxy 2 [0] [.asis] g):=by intro args; unfold yeey; split; exact .inr fun R k=>(by kernel_rfl); exact .inl fun R k=>rfl
theorem yloy [Fuel]:Ok 85 (yeey (@band_May_1 _)):=yaay std .nil ⟨rfl,rfl,by kernel_rfl,rfl,rfl,rfl⟩ (ytgy NN) (cuts0 (fun _=>rfl) (by kernel_rfl)) Tryz.func85 (by kernel_rfl) (by kernel_rfl)
abbrev T_z5z:Type 1:=List G_Row→G_Row→{R:Type}→(Int→G_Row→Option R)→Option R
structure C_z5z where
 N:Nat
 band_May_1:yiey
def z5z_L2 (g:C_z5z):Nat→List G_Row→Int→Int→G_Row→{R:Type}→(Int→G_Row→Option R)→(G_Row→Option R)→Option R
 | 0,_,_,_,_,_,_,_=>none
 | n + 1,v3,v4,v5,v6,_,e0,e1=>(bif (decide (v5 < v4)) then (get_ v3 v5 fun x10=>(g.band_May_1 x10 v6 (fun r11 r12=>(bif r11 then e0 v5 r12 else z5z_L2 g n v3 v4 (w64 (v5 + 1)) r12 e0 e1)))) else e1 v6)
def z5z_ (g:C_z5z) (a1:List G_Row) (a2:G_Row) {R:Type} (k0:Int→G_Row→Option R):Option R :=
 (z5z_L2 g g.N a1 (a1.length:Int) 0 a2 (fun e13 e14=>k0 e13 e14) (fun e15=>k0 (-1) e15))
noncomputable def I_z5z [Fuel]:C_z5z:=⟨NN,@band_May_1 _⟩
noncomputable def z5z [Fuel]:T_z5z:=@z5z_ I_z5z
def yroy (g:T_z5z):Spec A:=fun args=>match args with | [.d (.sl 134 a1),.fn 85 [.box [.d (.int .i64 a2),.d (.int .i64 a3)]]]=>fun k=>g a1 ⟨a2,a3⟩ (fun z0 z1=>k (.d (.int .i64 z0)) [.undef,.fn 85 [.box [.d (.int .i64 z1.f_From),.d (.int .i64 z1.f_To)]]]) | _=>fun _=>none
def ylYy:SSt:=mkSh 19 1 [(0,.sl 134),(1,.fn 85 [.ptr 0 0]),(7,.int .i64),(8,.int .i64)] [(0,.box [.int .i64,.int .i64])]
def ygUy (g:C_z5z) (n:Nat):LPT A:=fun ps=>match ps with | [.d (.sl 134 p1),.d (.int .i64 p2),.d (.int .i64 p3),.d (.int .i64 p4),.d (.int .i64 p5)]=>fun K=>z5z_L2 g n p1 p2 p3 ⟨p4,p5⟩ (fun z0 z1=>K .ret (mkSt 19 1 [(1,.fn 85 [.ptr 0 0]),(4,.d (.int .i64 z0))] [(0,some (.box [.d (.int .i64 z1.f_From),.d (.int .i64 z1.f_To)]))])) (fun z0=>K (.exit 0) (mkSt 19 1 [(1,.fn 85 [.ptr 0 0])] [(0,some (.box [.d (.int .i64 z0.f_From),.d (.int .i64 z0.f_To)]))])) | _=>fun _=>none
noncomputable def yt3y:Code:=(Tryz.f138.body).getD .skip
noncomputable def E_z5z (g:C_z5z):Env A:=mkE [(85,yeey g.band_May_1)] [] [(2,⟨[0,1,7,8],[],[0],[],[],[],[]⟩)] [(2,⟨[1,4],[],[0],[],[],[],[]⟩)] [(2,yafy ylYy (ygUy g g.N))] [] [] [] [] [1]
theorem yLdy [Fuel]:yagy (E_z5z I_z5z).C:=ct_of (P:=Tryz.prog) (T:=T) (.cons yloy .nil) (by kernel_rfl)
noncomputable def ysxy:Code:=sub [1,0,1,0,0] yt3y
theorem yFby (g:C_z5z) (n:Nat):yaly (E_z5z g) g.N ysxy ylYy (ygUy g) n:=by intro ps; unfold ygUy; split; exact .inr fun R K=>(by kernel_rfl); exact .inl fun R K=>rfl
theorem yCAy [Fuel]:yaey (E_z5z I_z5z) NN ysxy:=yahy ylYy (ygUy I_z5z) (by kernel_rfl) yLdy (cuts0 (fun _=>rfl) (by kernel_rfl)) (fun ps R K=>by unfold ygUy; split <;> (try unfold z5z_L2) <;> rfl) (yFby I_z5z)
theorem yLwy (g:C_z5z):Same (yroy (@z5z_ g)) (abody (E_z5z g) Tryz.f138 yt3y 1 [0] [.asis] g.N):=by intro args; unfold yroy; split; exact .inr fun R k=>(by kernel_rfl); exact .inl fun R k=>rfl
theorem yJ9y [Fuel]:Ok 138 (yroy (@z5z _)):=yaay std (.cons yloy .nil) ⟨rfl,rfl,by kernel_rfl,rfl,rfl,rfl⟩ (yLwy I_z5z) (cutsL (fun _=>rfl) (.cons yCAy .nil) (by kernel_rfl)) Tryz.func138 (by kernel_rfl) (by kernel_rfl)
abbrev yuvy:Type 1:=List G_Row→G_Row→{R:Type}→(Bool→G_Row→Option R)→Option R
structure C_z29z where
 N:Nat
 z5z:T_z5z
def z29z_ (g:C_z29z) (a1:List G_Row) (a2:G_Row) {R:Type} (k0:Bool→G_Row→Option R):Option R :=
 (g.z5z a1 a2 (fun r3 r4=>k0 (decide (r3 ≥ 0)) r4))
noncomputable def yt9y [Fuel]:C_z29z:=⟨NN,@z5z _⟩
noncomputable def z29z [Fuel]:yuvy:=@z29z_ yt9y
def yngy (g:yuvy):Spec A:=fun args=>match args with | [.d (.sl 134 a1),.fn 85 [.box [.d (.int .i64 a2),.d (.int .i64 a3)]]]=>fun k=>g a1 ⟨a2,a3⟩ (fun z0 z1=>k (.d (.bool z0)) [.undef,.fn 85 [.box [.d (.int .i64 z1.f_From),.d (.int .i64 z1.f_To)]]]) | _=>fun _=>none
noncomputable def yISy:Code:=(Tryz.f83.body).getD .skip
noncomputable def yKRy (g:C_z29z):Env A:=mkE [(138,yroy g.z5z)] [] [] [] [] [] [] [] [(138,0)] [1]
theorem yJhy (g:C_z29z):Same (yngy (@z29z_ g)) (abody (yKRy g) Tryz.f83 yISy 1 [0] [.asis] g.N):=by intro args; unfold yngy; split; exact .inr fun R k=>(by kernel_rfl); exact .inl fun R k=>rfl
theorem yGUy [Fuel]:Ok 83 (yngy (@z29z _)):=yaay std (.cons yJ9y .nil) ⟨rfl,rfl,by kernel_rfl,rfl,rfl,rfl⟩ (yJhy yt9y) (cuts0 (fun _=>rfl) (by kernel_rfl)) Tryz.func83 (by kernel_rfl) (by kernel_rfl)
abbrev ykKy:Type 1:=List G_Segment→List UInt8→Int→Int→Int→Int→{R:Type}→(Bool→Int→Option R)→Option R
structure C_band_May where
 N:Nat
 z49z:yh4y
 z45z:ydNy
 z19z:ytMy
 kit_IsKey:ybsy
 kit_IsMode:ydey
 band_used:yi6y
 z29z:yuvy
 z28z:yvyy
def ymMy (g:C_band_May) (a1:List G_Segment) (a2:List UInt8) (a3 a4 a5 a6:Int) {R:Type} (k0:Bool→Int→Option R):Option R :=
 (g.z19z a1 (fun r7=>(bif (r7 != 0) then k0 false r7 else (g.kit_IsKey a2 (fun r8=>(bif (!r8) then k0 false 5 else (g.z45z a3 0 30000000000 (fun r9=>(bif r9 then k0 false 1 else (g.z45z a4 1 100000 (fun r10=>(bif r10 then k0 false 1 else (g.kit_IsMode a5 (fun r11=>(bif (!r11) then k0 false 4 else (g.z49z a6 (fun r12=>(bif (!r12) then k0 false 1 else (g.band_used a3 a4 (fun r13=>(g.z28z a1 a2 a5 a6 (fun r14=>(g.z29z r14 r13 (fun r15 r16=>k0 r15 0))))))))))))))))))))))))
noncomputable def yk3y [Fuel]:C_band_May:=⟨NN,@z49z _,@z45z _,@z19z _,@kit_IsKey _,@kit_IsMode _,@band_used _,@z29z _,@z28z _⟩
noncomputable def band_May [Fuel]:ykKy:=@ymMy yk3y
def ygiy (g:ykKy):Spec A:=fun args=>match args with | [.d (.sl 92 a1),.d (.str a2),.d (.int .i64 a3),.d (.int .i64 a4),.d (.int .i64 a5),.d (.int .i64 a6)]=>fun k=>g a1 a2 a3 a4 a5 a6 (fun z0 z1=>k (.tup [.d (.bool z0),.d (.int .i64 z1)]) [.undef,.undef,.undef,.undef,.undef,.undef]) | _=>fun _=>none
noncomputable def yHfy:Code:=(Tryz.f38.body).getD .skip
noncomputable def yBfy (g:C_band_May):Env A:=mkE [(62,yevy g.z49z),(63,ycvy g.z45z),(79,ynIy g.z19z),(80,ya9y g.kit_IsKey),(81,yccy g.kit_IsMode),(82,yfGy g.band_used),(83,yngy g.z29z),(84,ynEy g.z28z)] [(15,[0]),(47,[1])] [] [] [] [] [] [] [] []
theorem yxSy (g:C_band_May):Same (ygiy (@ymMy g)) (abody (yBfy g) Tryz.f38 yHfy 2 [] [.asis,.asis] g.N):=by intro args; unfold ygiy; split; exact .inr fun R k=>(by kernel_rfl); exact .inl fun R k=>rfl
theorem yx1y [Fuel]:Ok 38 (ygiy (@band_May _)):=yaay std (.cons yhFy (.cons yc5y (.cons yHQy (.cons yaRy (.cons yd8y (.cons ytWy (.cons yGUy (.cons yIIy .nil)))))))) ⟨rfl,rfl,by kernel_rfl,rfl,rfl,rfl⟩ (yxSy yk3y) (cuts0 (fun _=>rfl) (by kernel_rfl)) Tryz.func38 (by kernel_rfl) (by kernel_rfl)
abbrev ywiy:Type 1:=List UInt8→{R:Type}→(Bool→Option R)→Option R
def z57z_L4 (g:Nat):Nat→List UInt8→Int→Int→{R:Type}→(Bool→Option R)→Option R→Option R
 | 0,_,_,_,_,_,_=>none
 | n + 1,v2,v3,v4,_,e0,e1=>(bif (decide (v4 < v3)) then (bif ((w64 (Int.tdiv v4 2)) == 1) then (get_ v2 v4 fun x11=>(bif (decide ((x11.toNat:Int) < 48)) then e0 false else (get_ v2 v4 fun x12=>(bif (decide ((x12.toNat:Int) > 57)) then e0 false else z57z_L4 g n v2 v3 (w64 (v4 + 1)) e0 e1)))) else (bif ((w64 (Int.tdiv v4 2)) == 2) then (get_ v2 v4 fun x13=>(bif (decide ((x13.toNat:Int) < 97)) then e0 false else (get_ v2 v4 fun x14=>(bif (decide ((x14.toNat:Int) > 120)) then e0 false else z57z_L4 g n v2 v3 (w64 (v4 + 1)) e0 e1)))) else (get_ v2 v4 fun x15=>(bif (decide ((x15.toNat:Int) < 97)) then e0 false else (get_ v2 v4 fun x16=>(bif (decide ((x16.toNat:Int) > 114)) then e0 false else z57z_L4 g n v2 v3 (w64 (v4 + 1)) e0 e1)))))) else e1)
def z57z_ (g:Nat) (a1:List UInt8) {R:Type} (k0:Bool→Option R):Option R :=
 (bif ((a1.length:Int) != 2) then (bif ((a1.length:Int) != 4) then (bif ((a1.length:Int) != 6) then k0 false else (z57z_L4 g g a1 (a1.length:Int) 0 (fun e17=>k0 e17) (k0 true))) else (z57z_L4 g g a1 (a1.length:Int) 0 (fun e18=>k0 e18) (k0 true))) else (z57z_L4 g g a1 (a1.length:Int) 0 (fun e19=>k0 e19) (k0 true)))
noncomputable def z57z [Fuel]:ywiy:=@z57z_ NN
def ynyy (g:ywiy):Spec A:=fun args=>match args with | [.d (.str a1)]=>fun k=>g a1 (fun z0=>k (.d (.bool z0)) [.undef]) | _=>fun _=>none
def ykRy:SSt:=mkSh 43 0 [(0,.str),(20,.int .i64),(21,.int .i64)] []
def yeFy (g:Nat) (n:Nat):LPT A:=fun ps=>match ps with | [.d (.str p1),.d (.int .i64 p2),.d (.int .i64 p3)]=>fun K=>z57z_L4 g n p1 p2 p3 (fun z0=>K .ret (mkSt 43 0 [(2,.d (.bool z0))] [])) (K (.exit 0) (mkSt 43 0 [] [])) | _=>fun _=>none
noncomputable def ytFy:Code:=(Tryz.f207.body).getD .skip
noncomputable def yp1y (g:Nat):Env A:=mkE [] [] [(4,⟨[0,20,21],[],[],[],[],[],[]⟩)] [(4,⟨[2],[],[],[],[],[],[]⟩)] [(4,yafy ykRy (yeFy g g))] [] [] [] [] []
theorem yJpy [Fuel]:yagy (yp1y NN).C:=ct_of (P:=Tryz.prog) (T:=T) .nil (by kernel_rfl)
noncomputable def yrpy:Code:=sub [1,1,0,1,0,0] ytFy
theorem yDiy (g:Nat) (n:Nat):yaly (yp1y g) g yrpy ykRy (yeFy g) n:=by intro ps; unfold yeFy; split; exact .inr fun R K=>(by kernel_rfl); exact .inl fun R K=>rfl
theorem yA6y [Fuel]:yaey (yp1y NN) NN yrpy:=yahy ykRy (yeFy NN) (by kernel_rfl) yJpy (cuts0 (fun _=>rfl) (by kernel_rfl)) (fun ps R K=>by unfold yeFy; split <;> (try unfold z57z_L4) <;> rfl) (yDiy NN)
theorem yJNy (g:Nat):Same (ynyy (@z57z_ g)) (abody (yp1y g) Tryz.f207 ytFy 0 [] [.asis] g):=by intro args; unfold ynyy; split; exact .inr fun R k=>(by kernel_rfl); exact .inl fun R k=>rfl
theorem yHvy [Fuel]:Ok 207 (ynyy (@z57z _)):=yaay std .nil ⟨rfl,rfl,by kernel_rfl,rfl,rfl,rfl⟩ (yJNy NN) (cutsL (fun _=>rfl) (.cons yA6y .nil) (by kernel_rfl)) Tryz.func207 (by kernel_rfl) (by kernel_rfl)
abbrev yvdy:Type 1:=List UInt8→{R:Type}→(Bool→Option R)→Option R
structure C_z79z where
 N:Nat
 z57z:ywiy
def z79z_ (g:C_z79z) (a1:List UInt8) {R:Type} (k0:Bool→Option R):Option R :=
 (bif ((a1.length:Int) == 6) then (g.z57z a1 (fun r2=>k0 r2)) else k0 false)
noncomputable def yC2y [Fuel]:C_z79z:=⟨NN,@z57z _⟩
noncomputable def z79z [Fuel]:yvdy:=@z79z_ yC2y
def ymPy (g:yvdy):Spec A:=fun args=>match args with | [.d (.str a1)]=>fun k=>g a1 (fun z0=>k (.d (.bool z0)) [.undef]) | _=>fun _=>none
noncomputable def yEjy:Code:=(Tryz.f142.body).getD .skip
noncomputable def yLDy (g:C_z79z):Env A:=mkE [(207,ynyy g.z57z)] [] [] [] [] [] [] [] [] []
theorem yG6y (g:C_z79z):Same (ymPy (@z79z_ g)) (abody (yLDy g) Tryz.f142 yEjy 0 [] [.asis] g.N):=by intro args; unfold ymPy; split; exact .inr fun R k=>(by kernel_rfl); exact .inl fun R k=>rfl
theorem yzuy [Fuel]:Ok 142 (ymPy (@z79z _)):=yaay std (.cons yHvy .nil) ⟨rfl,rfl,by kernel_rfl,rfl,rfl,rfl⟩ (yG6y yC2y) (cuts0 (fun _=>rfl) (by kernel_rfl)) Tryz.func142 (by kernel_rfl) (by kernel_rfl)
end Go.Am
