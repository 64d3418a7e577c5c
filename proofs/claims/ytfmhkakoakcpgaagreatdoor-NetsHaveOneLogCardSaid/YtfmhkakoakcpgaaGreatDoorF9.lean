/- The functions of the program as Lean functions, each shown to be what the code computes, part 9. No condition: lemmas for the claim. -/
import Derived.Test.YtfmhkakoakcpgaaGreatDoorF0
import Derived.Test.YtfmhkakoakcpgaaGreatDoorFSh
import Derived.Test.YtfmhkakoakcpgaaGreatDoorF4
import Derived.Test.YtfmhkakoakcpgaaGreatDoorF8
set_option linter.unusedVariables false
set_option maxRecDepth 100000
namespace Go.Am
open Go Go.Proofs
abbrev yvuy:Type 1:=List G_Segment→{R:Type}→(Int→Option R)→Option R
structure C_z23z where
 N:Nat
 kit_IsKey:ybDy
 z29z:yumy
 kit_IsTime:yhWy
 z56z:yuLy
def z23z_L4 (g:C_z23z):Nat→List G_Segment→List G_Segment→Int→Int→{R:Type}→(Int→Option R)→Option R→Option R
 | 0,_,_,_,_,_,_,_=>none
 | n + 1,v2,v3,v4,v5,_,e0,e1=>(bif (decide (v5 < v4)) then (get_ v3 v5 fun x12=>(g.kit_IsKey x12.f_Class (fun r13=>(bif (!r13) then e0 5 else (bif (decide (x12.f_Low < 0)) then e0 1 else (bif (decide (x12.f_Low ≥ x12.f_High)) then e0 1 else (bif (decide (x12.f_High > 30000000000)) then e0 1 else (g.z29z x12.f_Modes (fun r14=>(bif (r14 != 0) then e0 r14 else (g.kit_IsTime x12.f_Time (fun r15=>(bif (!r15) then e0 1 else (bif (decide (v5 > 0)) then (get_ v2 (w64 (v5 - 1)) fun x16=>(g.z56z x16 x12 (fun r17=>(bif (decide (r17 ≥ 0)) then e0 7 else z23z_L4 g n v2 v3 v4 (w64 (v5 + 1)) e0 e1)))) else z23z_L4 g n v2 v3 v4 (w64 (v5 + 1)) e0 e1)))))))))))))) else e1)
def z23z_ (g:C_z23z) (a1:List G_Segment) {R:Type} (k0:Int→Option R):Option R :=
 (bif (decide ((a1.length:Int) > 500)) then k0 2 else (z23z_L4 g g.N a1 a1 (a1.length:Int) 0 (fun e18=>k0 e18) (k0 0)))
noncomputable def ydBy [Fuel]:C_z23z:=⟨NN,@kit_IsKey _,@z29z _,@kit_IsTime _,@z56z _⟩
noncomputable def z23z [Fuel]:yvuy:=@z23z_ ydBy
def ynky (g:yvuy):Spec A:=fun args=>match args with | [.d (.sl 89 a1)]=>fun k=>g a1 (fun z0=>k (.d (.int .i64 z0)) [.undef]) | _=>fun _=>none
def ykky:SSt:=mkSh 58 1 [(0,.sl 89),(9,.sl 89),(10,.int .i64),(11,.int .i64)] []
def yffy (g:C_z23z) (n:Nat):LPT A:=fun ps=>match ps with | [.d (.sl 89 p1),.d (.sl 89 p2),.d (.int .i64 p3),.d (.int .i64 p4)]=>fun K=>z23z_L4 g n p1 p2 p3 p4 (fun z0=>K .ret (mkSt 58 1 [(2,.d (.int .i64 z0))] [])) (K (.exit 0) (mkSt 58 1 [] [])) | _=>fun _=>none
noncomputable def yyGy:Code:=(Tryz.f71.body).getD .skip
noncomputable def yqwy (g:C_z23z):Env A:=mkE [(66,ybly g.kit_IsKey),(108,ynny g.z29z),(109,yepy g.kit_IsTime),(110,ynfy g.z56z)] [(4,[0])] [(4,⟨[0,9,10,11],[],[],[],[],[],[]⟩)] [(4,⟨[2],[],[],[],[],[],[]⟩)] [(4,yaiy ykky (yffy g g.N))] [] [] [] [] []
theorem yJfy [Fuel]:yamy (yqwy ydBy).C:=ct_of (P:=Tryz.prog) (T:=T) (.cons yaXy (.cons yxTy (.cons yliy (.cons yzby .nil)))) (by kernel_rfl)
noncomputable def yqKy:Code:=sub [1,1,0,1,0,0] yyGy
theorem yDgy (g:C_z23z) (n:Nat):yaoy (yqwy g) g.N yqKy ykky (yffy g) n:=by intro ps; unfold yffy; split; exact .inr fun R K=>(by kernel_rfl); exact .inl fun R K=>rfl
theorem yAyy [Fuel]:yahy (yqwy ydBy) NN yqKy:=yaky ykky (yffy ydBy) (by kernel_rfl) yJfy (cuts0 (fun _=>rfl) (by kernel_rfl)) (fun ps R K=>by unfold yffy; split <;> (try unfold z23z_L4) <;> rfl) (yDgy ydBy)
theorem yHMy (g:C_z23z):Same (ynky (@z23z_ g)) (abody (yqwy g) Tryz.f71 yyGy 1 [] [.asis] g.N):=by intro args; unfold ynky; split; exact .inr fun R k=>(by kernel_rfl); exact .inl fun R k=>rfl
theorem yH4y [Fuel]:Ok 71 (ynky (@z23z _)):=yacy std (.cons yaXy (.cons yxTy (.cons yliy (.cons yzby .nil)))) ⟨rfl,rfl,by kernel_rfl,rfl,rfl,rfl⟩ (yHMy ydBy) (cutsL (fun _=>rfl) (.cons yAyy .nil) (by kernel_rfl)) Tryz.func71 (by kernel_rfl) (by kernel_rfl)
abbrev yiSy:Type 1:=Int→Int→{R:Type}→(G_Row→Option R)→Option R
def ypQy (g:Nat) (a1 a2:Int) {R:Type} (k0:G_Row→Option R):Option R :=
 k0 (⟨(w64 (a1 - (w64 (Int.tdiv a2 2)))),(w64 ((w64 (a1 - (w64 (Int.tdiv a2 2)))) + a2))⟩:G_Row)
noncomputable def band_used [Fuel]:yiSy:=@ypQy NN
def yfly (g:yiSy):Spec A:=fun args=>match args with | [.d (.int .i64 a1),.d (.int .i64 a2)]=>fun k=>g a1 a2 (fun z0=>k (.agg [.d (.int .i64 z0.f_From),.d (.int .i64 z0.f_To)]) [.undef,.undef]) | _=>fun _=>none
noncomputable def yHFy:Code:=(Tryz.f72.body).getD .skip
noncomputable def yxiy (g:Nat):Env A:=mkE [] [(4,[0])] [] [] [] [] [] [] [] []
theorem yvmy (g:Nat):Same (yfly (@ypQy g)) (abody (yxiy g) Tryz.f72 yHFy 1 [] [.asis] g):=by intro args; unfold yfly; split; exact .inr fun R k=>(by kernel_rfl); exact .inl fun R k=>rfl
theorem ywJy [Fuel]:Ok 72 (yfly (@band_used _)):=yacy std .nil ⟨rfl,rfl,by kernel_rfl,rfl,rfl,rfl⟩ (yvmy NN) (cuts0 (fun _=>rfl) (by kernel_rfl)) Tryz.func72 (by kernel_rfl) (by kernel_rfl)
abbrev ylHy:Type 1:=G_Window→Int→{R:Type}→(Bool→Option R)→Option R
def yoJy (g:Nat) (a1:G_Window) (a2:Int) {R:Type} (k0:Bool→Option R):Option R :=
 (bif (decide (a1.f_From≤a2)) then k0 (decide (a2 < a1.f_To)) else k0 false)
noncomputable def kit_Has [Fuel]:ylHy:=@yoJy NN
def yhgy (g:ylHy):Spec A:=fun args=>match args with | [.agg [.d (.int .i64 a1),.d (.int .i64 a2)],.d (.int .i64 a3)]=>fun k=>g ⟨a1,a2⟩ a3 (fun z0=>k (.d (.bool z0)) [.undef,.undef]) | _=>fun _=>none
noncomputable def yFjy:Code:=(Tryz.f113.body).getD .skip
noncomputable def yBxy (g:Nat):Env A:=mkE [] [(2,[0])] [] [] [] [] [] [] [] []
theorem yz6y (g:Nat):Same (yhgy (@yoJy g)) (abody (yBxy g) Tryz.f113 yFjy 1 [] [.asis] g):=by intro args; unfold yhgy; split; exact .inr fun R k=>(by kernel_rfl); exact .inl fun R k=>rfl
theorem yq3y [Fuel]:Ok 113 (yhgy (@kit_Has _)):=yacy std .nil ⟨rfl,rfl,by kernel_rfl,rfl,rfl,rfl⟩ (yz6y NN) (cuts0 (fun _=>rfl) (by kernel_rfl)) Tryz.func113 (by kernel_rfl) (by kernel_rfl)
abbrev ytzy:Type 1:=List Int→Int→{R:Type}→(Int→Option R)→Option R
def z46z_L2 (g:Nat):Nat→List Int→Int→Int→Int→{R:Type}→(Int→Option R)→Option R→Option R
 | 0,_,_,_,_,_,_,_=>none
 | n + 1,v3,v4,v5,v6,_,e0,e1=>(bif (decide (v6 < v5)) then (get_ v3 v6 fun x8=>(bif (v4 == x8) then e0 v6 else z46z_L2 g n v3 v4 v5 (w64 (v6 + 1)) e0 e1)) else e1)
def z46z_ (g:Nat) (a1:List Int) (a2:Int) {R:Type} (k0:Int→Option R):Option R :=
 (z46z_L2 g g a1 a2 (a1.length:Int) 0 (fun e9=>k0 e9) (k0 (-1)))
noncomputable def z46z [Fuel]:ytzy:=@z46z_ NN
def ym9y (g:ytzy):Spec A:=fun args=>match args with | [.d (.sl 3 a1),.d (.int .i64 a2)]=>fun k=>g a1 a2 (fun z0=>k (.d (.int .i64 z0)) [.undef,.undef]) | _=>fun _=>none
def ykFy:SSt:=mkSh 19 0 [(0,.sl 3),(1,.int .i64),(7,.int .i64),(8,.int .i64)] []
def yfOy (g:Nat) (n:Nat):LPT A:=fun ps=>match ps with | [.d (.sl 3 p1),.d (.int .i64 p2),.d (.int .i64 p3),.d (.int .i64 p4)]=>fun K=>z46z_L2 g n p1 p2 p3 p4 (fun z0=>K .ret (mkSt 19 0 [(4,.d (.int .i64 z0))] [])) (K (.exit 0) (mkSt 19 0 [] [])) | _=>fun _=>none
noncomputable def ywLy:Code:=(Tryz.f153.body).getD .skip
noncomputable def ypey (g:Nat):Env A:=mkE [] [] [(2,⟨[0,1,7,8],[],[],[],[],[],[]⟩)] [(2,⟨[4],[],[],[],[],[],[]⟩)] [(2,yaiy ykFy (yfOy g g))] [] [] [] [] []
theorem yHfy [Fuel]:yamy (ypey NN).C:=ct_of (P:=Tryz.prog) (T:=T) .nil (by kernel_rfl)
noncomputable def yqQy:Code:=sub [1,0,1,0,0] ywLy
theorem yDfy (g:Nat) (n:Nat):yaoy (ypey g) g yqQy ykFy (yfOy g) n:=by intro ps; unfold yfOy; split; exact .inr fun R K=>(by kernel_rfl); exact .inl fun R K=>rfl
theorem yA1y [Fuel]:yahy (ypey NN) NN yqQy:=yaky ykFy (yfOy NN) (by kernel_rfl) yHfy (cuts0 (fun _=>rfl) (by kernel_rfl)) (fun ps R K=>by unfold yfOy; split <;> (try unfold z46z_L2) <;> rfl) (yDfy NN)
theorem yGQy (g:Nat):Same (ym9y (@z46z_ g)) (abody (ypey g) Tryz.f153 ywLy 0 [] [.asis] g):=by intro args; unfold ym9y; split; exact .inr fun R k=>(by kernel_rfl); exact .inl fun R k=>rfl
theorem yIXy [Fuel]:Ok 153 (ym9y (@z46z _)):=yacy std .nil ⟨rfl,rfl,by kernel_rfl,rfl,rfl,rfl⟩ (yGQy NN) (cutsL (fun _=>rfl) (.cons yA1y .nil) (by kernel_rfl)) Tryz.func153 (by kernel_rfl) (by kernel_rfl)
abbrev ytHy:Type 1:=List Int→Int→{R:Type}→(Bool→Option R)→Option R
structure C_z57z where
 N:Nat
 z46z:ytzy
def z57z_ (g:C_z57z) (a1:List Int) (a2:Int) {R:Type} (k0:Bool→Option R):Option R :=
 (g.z46z a1 a2 (fun r3=>k0 (decide (r3 ≥ 0))))
noncomputable def yuny [Fuel]:C_z57z:=⟨NN,@z46z _⟩
noncomputable def z57z [Fuel]:ytHy:=@z57z_ yuny
def ynLy (g:ytHy):Spec A:=fun args=>match args with | [.d (.sl 3 a1),.d (.int .i64 a2)]=>fun k=>g a1 a2 (fun z0=>k (.d (.bool z0)) [.undef,.undef]) | _=>fun _=>none
noncomputable def yE2y:Code:=(Tryz.f112.body).getD .skip
noncomputable def yKvy (g:C_z57z):Env A:=mkE [(153,ym9y g.z46z)] [] [] [] [] [] [] [] [] []
theorem yHDy (g:C_z57z):Same (ynLy (@z57z_ g)) (abody (yKvy g) Tryz.f112 yE2y 0 [] [.asis] g.N):=by intro args; unfold ynLy; split; exact .inr fun R k=>(by kernel_rfl); exact .inl fun R k=>rfl
theorem yzgy [Fuel]:Ok 112 (ynLy (@z57z _)):=yacy std (.cons yIXy .nil) ⟨rfl,rfl,by kernel_rfl,rfl,rfl,rfl⟩ (yHDy yuny) (cuts0 (fun _=>rfl) (by kernel_rfl)) Tryz.func112 (by kernel_rfl) (by kernel_rfl)
abbrev yDCy:Type 1:=G_Row→G_Row→{R:Type}→(Int→Option R)→Option R
def z47z_ (g:Nat) (a1 a2:G_Row) {R:Type} (k0:Int→Option R):Option R :=
 k0 (w64 (a1.f_From - a2.f_From))
noncomputable def z47z [Fuel]:yDCy:=@z47z_ NN
def yggy (g:yDCy):Spec A:=fun args=>match args with | [.agg [.d (.int .i64 a1),.d (.int .i64 a2)],.agg [.d (.int .i64 a3),.d (.int .i64 a4)]]=>fun k=>g ⟨a1,a2⟩ ⟨a3,a4⟩ (fun z0=>k (.d (.int .i64 z0)) [.undef,.undef]) | _=>fun _=>none
noncomputable def ytWy:Code:=(Tryz.f155.body).getD .skip
noncomputable def yKjy (g:Nat):Env A:=mkE [] [(2,[0]),(3,[1])] [] [] [] [] [] [] [] []
theorem yImy (g:Nat):Same (yggy (@z47z_ g)) (abody (yKjy g) Tryz.f155 ytWy 2 [] [.asis] g):=by intro args; unfold yggy; split; exact .inr fun R k=>(by kernel_rfl); exact .inl fun R k=>rfl
theorem ok_z47z [Fuel]:Ok 155 (yggy (@z47z _)):=yacy std .nil ⟨rfl,rfl,by kernel_rfl,rfl,rfl,rfl⟩ (yImy NN) (cuts0 (fun _=>rfl) (by kernel_rfl)) Tryz.func155 (by kernel_rfl) (by kernel_rfl)
noncomputable def yFFy (g:Nat):Env A:=mkED [] [(2,[0]),(3,[1])] [] [] [] [] [] [] [] []
theorem yD7y (g:Nat):Same (yggy (@z47z_ g)) (abody (yFFy g) Tryz.f155 ytWy 2 [] [.asis] g):=by intro args; unfold yggy; split; exact .inr fun R k=>(by kernel_rfl); exact .inl fun R k=>rfl
theorem yuzy [Fuel]:OkD 155 (yggy (@z47z _)):=yacy stdD .nil ⟨rfl,rfl,by kernel_rfl,rfl,rfl,rfl⟩ (yD7y NN) (cuts0 (fun _=>rfl) (by kernel_rfl)) Tryz.func155 (by kernel_rfl) (by kernel_rfl)
abbrev yu3y:Type 1:=List G_Row→{R:Type}→(List G_Row→Option R)→Option R
noncomputable def z38z [Fuel]:yu3y:=@ybJy G_Row (@z47z _)
def yjFy (g:yu3y):Spec A:=fun args=>match args with | [.arr 130 a1,.fn 155 []]=>fun k=>g a1 (fun z=>k (.tup []) [.arr 130 z,.fn 155 []]) | _=>fun _=>none
theorem yzey [Fuel] (xs:List (A 130)) (R:Type) (k:IV A→List (IV A)→Option R):yjFy (@z38z _) [.arr 130 xs,.fn 155 []] k = ybJy (α:=A 130) (@z47z _) xs (fun z=>k (.tup []) [.arr 130 z,.fn 155 []]):=by kernel_rfl
theorem yy7y [Fuel] (args:List (IV A)) (R:Type) (k:IV A→List (IV A)→Option R) (h:∀ xs:List (A 130),args ≠ [.arr 130 xs,.fn 155 []]):yjFy (@z38z _) args k = none:=by unfold yjFy; split; exact absurd rfl (h _); rfl
theorem yIhy [Fuel] (x y:A 130) (R:Type) (k:Int→Option R):yjhy T (yggy (@z47z _)) 130 x y k = @z47z _ x y R k:=by kernel_rfl
theorem yH7y (x:G_Row):(ykKy x).all scal = true:=rfl
theorem yyzy [Fuel]:Ok 154 (yjFy (@z38z _)):=⟨yguy (tyOk Tryz.prog) (e:=130) Tryz.sortf154 Tryz.isAgg130 Tryz.sizeOf130 (fun x d hd=>List.all_eq_true.1 (yH7y x) d hd) yIhy yuzy.fs yuzy.en yzey yy7y,yk8y (e:=130) yzey yy7y,yaSy (fn:=Tryz.f154) Tryz.func154 (by kernel_rfl) (by kernel_rfl)⟩
abbrev yv2y:Type 1:=List G_Row→{R:Type}→(List G_Row→Option R)→Option R
structure C_z15z where
 N:Nat
 z38z:yu3y
def z15z_L4 (g:C_z15z):Nat→Int→Int→List G_Row→List G_Row→{R:Type}→(List G_Row→Option R)→Option R
 | 0,_,_,_,_,_,_=>none
 | n + 1,v3,v4,v5,v6,_,e0=>(bif (decide (v4 < v3)) then (inr v5 v4 (at_ v5 v4 fun x11=>(bif (decide ((w64 ((v6.length:Int) - 1)) ≥ 0)) then (inr v6 (w64 ((v6.length:Int) - 1)) (at_ v6 (w64 ((v6.length:Int) - 1)) fun x12=>(bif (decide (x11.f_From≤x12.f_To)) then (inr v6 (w64 ((v6.length:Int) - 1)) (at_ v6 (w64 ((v6.length:Int) - 1)) fun x13=>(inr v6 (w64 ((v6.length:Int) - 1)) (at_ v6 (w64 ((v6.length:Int) - 1)) fun x14=>z15z_L4 g n v3 (w64 (v4 + 1)) v5 (set_ v6 (w64 ((v6.length:Int) - 1)) (⟨x14.f_From,(if x11.f_To > x13.f_To then x11.f_To else x13.f_To)⟩:G_Row)) e0)))) else (bif (decide ((v6.length + [x11].length) * 16≤yady)) then z15z_L4 g n v3 (w64 (v4 + 1)) v5 (v6 ++ [x11]) e0 else none)))) else (bif (decide ((v6.length + [x11].length) * 16≤yady)) then z15z_L4 g n v3 (w64 (v4 + 1)) v5 (v6 ++ [x11]) e0 else none)))) else e0 v6)
def z15z_ (g:C_z15z) (a1:List G_Row) {R:Type} (k0:List G_Row→Option R):Option R :=
 (g.z38z a1 (fun r2=>(z15z_L4 g g.N (r2.length:Int) 0 r2 [] (fun e15=>k0 e15))))
noncomputable def ycHy [Fuel]:C_z15z:=⟨NN,@z38z _⟩
noncomputable def z15z [Fuel]:yv2y:=@z15z_ ycHy
def ym7y (g:yv2y):Spec A:=fun args=>match args with | [.arr 130 a1]=>fun k=>g a1 (fun z0=>k (.arr 130 z0) [.undef]) | _=>fun _=>none
def ykyy:SSt:=mkSh 48 5 [(3,.own 130 1),(9,.own 130 0),(10,.int .i64),(11,.int .i64)] [(0,.row 130),(1,.row 130)]
def ye9y (g:C_z15z) (n:Nat):LPT A:=fun ps=>match ps with | [.d (.int .i64 p1),.d (.int .i64 p2),.d (.sl 130 p3),.d (.sl 130 p4)]=>fun K=>z15z_L4 g n p1 p2 p3 p4 (fun z0=>K (.exit 0) (mkSt 48 5 [(3,.own 130 1)] [(1,some (.row 130 z0))])) | _=>fun _=>none
noncomputable def yt5y:Code:=(Tryz.f114.body).getD .skip
noncomputable def yp2y (g:C_z15z):Env A:=mkE [(154,yjFy g.z38z)] [(5,[2]),(44,[3]),(45,[4])] [(4,⟨[3,9,10,11],[(3,130,1)],[0],[],[],[],[]⟩)] [(4,⟨[3],[],[1],[],[],[],[]⟩)] [(4,yaiy ykyy (ye9y g g.N))] [] [] [] [(154,0)] []
theorem yI0y [Fuel]:yamy (yp2y ycHy).C:=ct_of (P:=Tryz.prog) (T:=T) (.cons yyzy .nil) (by kernel_rfl)
noncomputable def ypuy:Code:=sub [1,1,1,0,1,0,0] yt5y
theorem yBwy (g:C_z15z) (n:Nat):yaoy (yp2y g) g.N ypuy ykyy (ye9y g) n:=by intro ps; unfold ye9y; split; exact .inr fun R K=>(by kernel_rfl); exact .inl fun R K=>rfl
theorem yz7y [Fuel]:yahy (yp2y ycHy) NN ypuy:=yaky ykyy (ye9y ycHy) (by kernel_rfl) yI0y (cuts0 (fun _=>rfl) (by kernel_rfl)) (fun ps R K=>by unfold ye9y; split <;> (try unfold z15z_L4) <;> rfl) (yBwy ycHy)
theorem yFKy (g:C_z15z):Same (ym7y (@z15z_ g)) (abody (yp2y g) Tryz.f114 yt5y 5 [0] [.arr 130] g.N):=by intro args; unfold ym7y; split; exact .inr fun R k=>(by kernel_rfl); exact .inl fun R k=>rfl
theorem yygy [Fuel]:Ok 114 (ym7y (@z15z _)):=yacy std (.cons yyzy .nil) ⟨rfl,rfl,by kernel_rfl,rfl,rfl,rfl⟩ (yFKy ycHy) (cutsL (fun _=>rfl) (.cons yz7y .nil) (by kernel_rfl)) Tryz.func114 (by kernel_rfl) (by kernel_rfl)
abbrev yvMy:Type 1:=List G_Segment→List UInt8→Int→Int→{R:Type}→(List G_Row→Option R)→Option R
structure C_z31z where
 N:Nat
 z57z:ytHy
 kit_Has:ylHy
 z15z:yv2y
def z31z_L3 (g:C_z31z):Nat→List UInt8→Int→Int→List G_Segment→Int→Int→List G_Row→{R:Type}→(List G_Row→Option R)→Option R
 | 0,_,_,_,_,_,_,_,_,_=>none
 | n + 1,v5,v6,v7,v8,v9,v10,v11,_,e0=>(bif (decide (v10 < v9)) then (get_ v8 v10 fun x16=>(bif (x16.f_Class == v5) then (bif (v6 == 0) then (g.kit_Has x16.f_Time v7 (fun r17=>(bif r17 then (bif (decide ((v11.length + [(⟨x16.f_Low,x16.f_High⟩:G_Row)].length) * 16≤yady)) then z31z_L3 g n v5 v6 v7 v8 v9 (w64 (v10 + 1)) (v11 ++ [(⟨x16.f_Low,x16.f_High⟩:G_Row)]) e0 else none) else z31z_L3 g n v5 v6 v7 v8 v9 (w64 (v10 + 1)) v11 e0))) else (g.z57z x16.f_Modes v6 (fun r18=>(bif r18 then (g.kit_Has x16.f_Time v7 (fun r19=>(bif r19 then (bif (decide ((v11.length + [(⟨x16.f_Low,x16.f_High⟩:G_Row)].length) * 16≤yady)) then z31z_L3 g n v5 v6 v7 v8 v9 (w64 (v10 + 1)) (v11 ++ [(⟨x16.f_Low,x16.f_High⟩:G_Row)]) e0 else none) else z31z_L3 g n v5 v6 v7 v8 v9 (w64 (v10 + 1)) v11 e0))) else z31z_L3 g n v5 v6 v7 v8 v9 (w64 (v10 + 1)) v11 e0)))) else z31z_L3 g n v5 v6 v7 v8 v9 (w64 (v10 + 1)) v11 e0)) else e0 v11)
def z31z_ (g:C_z31z) (a1:List G_Segment) (a2:List UInt8) (a3 a4:Int) {R:Type} (k0:List G_Row→Option R):Option R :=
 (z31z_L3 g g.N a2 a3 a4 a1 (a1.length:Int) 0 [] (fun e20=>(g.z15z e20 (fun r21=>k0 r21))))
noncomputable def yc5y [Fuel]:C_z31z:=⟨NN,@z57z _,@kit_Has _,@z15z _⟩
noncomputable def z31z [Fuel]:yvMy:=@z31z_ yc5y
def ym3y (g:yvMy):Spec A:=fun args=>match args with | [.d (.sl 89 a1),.d (.str a2),.d (.int .i64 a3),.d (.int .i64 a4)]=>fun k=>g a1 a2 a3 a4 (fun z0=>k (.arr 130 z0) [.undef,.undef,.undef,.undef]) | _=>fun _=>none
def ykXy:SSt:=mkSh 49 5 [(1,.str),(2,.int .i64),(3,.int .i64),(9,.own 130 0),(12,.sl 89),(13,.int .i64),(14,.int .i64)] [(0,.row 130)]
def yfDy (g:C_z31z) (n:Nat):LPT A:=fun ps=>match ps with | [.d (.str p1),.d (.int .i64 p2),.d (.int .i64 p3),.d (.sl 89 p4),.d (.int .i64 p5),.d (.int .i64 p6),.d (.sl 130 p7)]=>fun K=>z31z_L3 g n p1 p2 p3 p4 p5 p6 p7 (fun z0=>K (.exit 0) (mkSt 49 5 [(9,.own 130 0)] [(0,some (.row 130 z0))])) | _=>fun _=>none
noncomputable def yx0y:Code:=(Tryz.f74.body).getD .skip
noncomputable def yp7y (g:C_z31z):Env A:=mkE [(112,ynLy g.z57z),(113,yhgy g.kit_Has),(114,ym7y g.z15z)] [(11,[1]),(44,[2]),(45,[3]),(48,[4])] [(3,⟨[1,2,3,9,12,13,14],[(9,130,0)],[],[],[],[],[]⟩)] [(3,⟨[9],[],[0],[],[],[],[]⟩)] [(3,yaiy ykXy (yfDy g g.N))] [] [] [] [(114,0)] []
theorem yIey [Fuel]:yamy (yp7y yc5y).C:=ct_of (P:=Tryz.prog) (T:=T) (.cons yzgy (.cons yq3y (.cons yygy .nil))) (by kernel_rfl)
noncomputable def yqFy:Code:=sub [1,1,0,1,0,0] yx0y
theorem yCcy (g:C_z31z) (n:Nat):yaoy (yp7y g) g.N yqFy ykXy (yfDy g) n:=by intro ps; unfold yfDy; split; exact .inr fun R K=>(by kernel_rfl); exact .inl fun R K=>rfl
theorem yz3y [Fuel]:yahy (yp7y yc5y) NN yqFy:=yaky ykXy (yfDy yc5y) (by kernel_rfl) yIey (cuts0 (fun _=>rfl) (by kernel_rfl)) (fun ps R K=>by unfold yfDy; split <;> (try unfold z31z_L3) <;> rfl) (yCcy yc5y)
theorem yI9y (g:C_z31z):Same (ym3y (@z31z_ g)) (abody (yp7y g) Tryz.f74 yx0y 5 [] [.arr 130] g.N):=by intro args; unfold ym3y; split; exact .inr fun R k=>(by kernel_rfl); exact .inl fun R k=>rfl
theorem yFTy [Fuel]:Ok 74 (ym3y (@z31z _)):=yacy std (.cons yzgy (.cons yq3y (.cons yygy .nil))) ⟨rfl,rfl,by kernel_rfl,rfl,rfl,rfl⟩ (yI9y yc5y) (cutsL (fun _=>rfl) (.cons yz3y .nil) (by kernel_rfl)) Tryz.func74 (by kernel_rfl) (by kernel_rfl)
abbrev yhQy:Type 1:=G_Row→G_Row→{R:Type}→(Bool→G_Row→Option R)→Option R
def yi8y (g:Nat) (a1 a2:G_Row) {R:Type} (k0:Bool→G_Row→Option R):Option R :=
 (bif (decide (a1.f_From≤a2.f_From)) then k0 (decide (a2.f_To≤a1.f_To)) a2 else k0 false a2)
noncomputable def band_May_1 [Fuel]:yhQy:=@yi8y NN
def yeky (g:yhQy):Spec A:=fun args=>match args with | [.agg [.d (.int .i64 a1),.d (.int .i64 a2)],.box [.d (.int .i64 a3),.d (.int .i64 a4)]]=>fun k=>g ⟨a1,a2⟩ ⟨a3,a4⟩ (fun z0 z1=>k (.d (.bool z0)) [.undef,.box [.d (.int .i64 z1.f_From),.d (.int .i64 z1.f_To)]]) | _=>fun _=>none
noncomputable def yHcy:Code:=(Tryz.f75.body).getD .skip
noncomputable def yvPy (g:Nat):Env A:=mkE [] [(2,[1])] [] [] [] [] [] [] [] [1]
theorem ytay (g:Nat):Same (yeky (@yi8y g)) (abody (yvPy g) Tryz.f75 yHcy 2 [0] [.asis] g):=by intro args; unfold yeky; split; exact .inr fun R k=>(by kernel_rfl); exact .inl fun R k=>rfl
theorem yljy [Fuel]:Ok 75 (yeky (@band_May_1 _)):=yacy std .nil ⟨rfl,rfl,by kernel_rfl,rfl,rfl,rfl⟩ (ytay NN) (cuts0 (fun _=>rfl) (by kernel_rfl)) Tryz.func75 (by kernel_rfl) (by kernel_rfl)
abbrev T_z7z:Type 1:=List G_Row→G_Row→{R:Type}→(Int→G_Row→Option R)→Option R
structure C_z7z where
 N:Nat
 band_May_1:yhQy
def z7z_L2 (g:C_z7z):Nat→List G_Row→Int→Int→G_Row→{R:Type}→(Int→G_Row→Option R)→(G_Row→Option R)→Option R
 | 0,_,_,_,_,_,_,_=>none
 | n + 1,v3,v4,v5,v6,_,e0,e1=>(bif (decide (v5 < v4)) then (get_ v3 v5 fun x10=>(g.band_May_1 x10 v6 (fun r11 r12=>(bif r11 then e0 v5 r12 else z7z_L2 g n v3 v4 (w64 (v5 + 1)) r12 e0 e1)))) else e1 v6)
def z7z_ (g:C_z7z) (a1:List G_Row) (a2:G_Row) {R:Type} (k0:Int→G_Row→Option R):Option R :=
 (z7z_L2 g g.N a1 (a1.length:Int) 0 a2 (fun e13 e14=>k0 e13 e14) (fun e15=>k0 (-1) e15))
noncomputable def I_z7z [Fuel]:C_z7z:=⟨NN,@band_May_1 _⟩
noncomputable def z7z [Fuel]:T_z7z:=@z7z_ I_z7z
def yp8y (g:T_z7z):Spec A:=fun args=>match args with | [.d (.sl 130 a1),.fn 75 [.box [.d (.int .i64 a2),.d (.int .i64 a3)]]]=>fun k=>g a1 ⟨a2,a3⟩ (fun z0 z1=>k (.d (.int .i64 z0)) [.undef,.fn 75 [.box [.d (.int .i64 z1.f_From),.d (.int .i64 z1.f_To)]]]) | _=>fun _=>none
def ymPy:SSt:=mkSh 19 1 [(0,.sl 130),(1,.fn 75 [.ptr 0 0]),(7,.int .i64),(8,.int .i64)] [(0,.box [.int .i64,.int .i64])]
def ygCy (g:C_z7z) (n:Nat):LPT A:=fun ps=>match ps with | [.d (.sl 130 p1),.d (.int .i64 p2),.d (.int .i64 p3),.d (.int .i64 p4),.d (.int .i64 p5)]=>fun K=>z7z_L2 g n p1 p2 p3 ⟨p4,p5⟩ (fun z0 z1=>K .ret (mkSt 19 1 [(1,.fn 75 [.ptr 0 0]),(4,.d (.int .i64 z0))] [(0,some (.box [.d (.int .i64 z1.f_From),.d (.int .i64 z1.f_To)]))])) (fun z0=>K (.exit 0) (mkSt 19 1 [(1,.fn 75 [.ptr 0 0])] [(0,some (.box [.d (.int .i64 z0.f_From),.d (.int .i64 z0.f_To)]))])) | _=>fun _=>none
noncomputable def ytVy:Code:=(Tryz.f111.body).getD .skip
noncomputable def E_z7z (g:C_z7z):Env A:=mkE [(75,yeky g.band_May_1)] [] [(2,⟨[0,1,7,8],[],[0],[],[],[],[]⟩)] [(2,⟨[1,4],[],[0],[],[],[],[]⟩)] [(2,yaiy ymPy (ygCy g g.N))] [] [] [] [] [1]
theorem yKIy [Fuel]:yamy (E_z7z I_z7z).C:=ct_of (P:=Tryz.prog) (T:=T) (.cons yljy .nil) (by kernel_rfl)
noncomputable def ys0y:Code:=sub [1,0,1,0,0] ytVy
theorem yDMy (g:C_z7z) (n:Nat):yaoy (E_z7z g) g.N ys0y ymPy (ygCy g) n:=by intro ps; unfold ygCy; split; exact .inr fun R K=>(by kernel_rfl); exact .inl fun R K=>rfl
theorem yB0y [Fuel]:yahy (E_z7z I_z7z) NN ys0y:=yaky ymPy (ygCy I_z7z) (by kernel_rfl) yKIy (cuts0 (fun _=>rfl) (by kernel_rfl)) (fun ps R K=>by unfold ygCy; split <;> (try unfold z7z_L2) <;> rfl) (yDMy I_z7z)
theorem yKHy (g:C_z7z):Same (yp8y (@z7z_ g)) (abody (E_z7z g) Tryz.f111 ytVy 1 [0] [.asis] g.N):=by intro args; unfold yp8y; split; exact .inr fun R k=>(by kernel_rfl); exact .inl fun R k=>rfl
theorem yKfy [Fuel]:Ok 111 (yp8y (@z7z _)):=yacy std (.cons yljy .nil) ⟨rfl,rfl,by kernel_rfl,rfl,rfl,rfl⟩ (yKHy I_z7z) (cutsL (fun _=>rfl) (.cons yB0y .nil) (by kernel_rfl)) Tryz.func111 (by kernel_rfl) (by kernel_rfl)
abbrev yt3y:Type 1:=List G_Row→G_Row→{R:Type}→(Bool→G_Row→Option R)→Option R
structure C_z30z where
 N:Nat
 z7z:T_z7z
def z30z_ (g:C_z30z) (a1:List G_Row) (a2:G_Row) {R:Type} (k0:Bool→G_Row→Option R):Option R :=
 (g.z7z a1 a2 (fun r3 r4=>k0 (decide (r3 ≥ 0)) r4))
noncomputable def yt0y [Fuel]:C_z30z:=⟨NN,@z7z _⟩
noncomputable def z30z [Fuel]:yt3y:=@z30z_ yt0y
def ymZy (g:yt3y):Spec A:=fun args=>match args with | [.d (.sl 130 a1),.fn 75 [.box [.d (.int .i64 a2),.d (.int .i64 a3)]]]=>fun k=>g a1 ⟨a2,a3⟩ (fun z0 z1=>k (.d (.bool z0)) [.undef,.fn 75 [.box [.d (.int .i64 z1.f_From),.d (.int .i64 z1.f_To)]]]) | _=>fun _=>none
noncomputable def yIWy:Code:=(Tryz.f73.body).getD .skip
noncomputable def yKiy (g:C_z30z):Env A:=mkE [(111,yp8y g.z7z)] [] [] [] [] [] [] [] [(111,0)] [1]
theorem yHoy (g:C_z30z):Same (ymZy (@z30z_ g)) (abody (yKiy g) Tryz.f73 yIWy 1 [0] [.asis] g.N):=by intro args; unfold ymZy; split; exact .inr fun R k=>(by kernel_rfl); exact .inl fun R k=>rfl
theorem yGpy [Fuel]:Ok 73 (ymZy (@z30z _)):=yacy std (.cons yKfy .nil) ⟨rfl,rfl,by kernel_rfl,rfl,rfl,rfl⟩ (yHoy yt0y) (cuts0 (fun _=>rfl) (by kernel_rfl)) Tryz.func73 (by kernel_rfl) (by kernel_rfl)
abbrev ykpy:Type 1:=List G_Segment→List UInt8→Int→Int→Int→Int→{R:Type}→(Bool→Int→Option R)→Option R
structure C_band_May where
 N:Nat
 z50z:yh4y
 z49z:yfny
 kit_IsMode:ydwy
 kit_IsKey:ybDy
 z23z:yvuy
 band_used:yiSy
 z30z:yt3y
 z31z:yvMy
def ymUy (g:C_band_May) (a1:List G_Segment) (a2:List UInt8) (a3 a4 a5 a6:Int) {R:Type} (k0:Bool→Int→Option R):Option R :=
 (g.z23z a1 (fun r7=>(bif (r7 != 0) then k0 false r7 else (g.kit_IsKey a2 (fun r8=>(bif (!r8) then k0 false 5 else (g.z49z a3 0 30000000000 (fun r9=>(bif r9 then k0 false 1 else (g.z49z a4 1 100000 (fun r10=>(bif r10 then k0 false 1 else (g.kit_IsMode a5 (fun r11=>(bif (!r11) then k0 false 4 else (g.z50z a6 (fun r12=>(bif (!r12) then k0 false 1 else (g.band_used a3 a4 (fun r13=>(g.z31z a1 a2 a5 a6 (fun r14=>(g.z30z r14 r13 (fun r15 r16=>k0 r15 0))))))))))))))))))))))))
noncomputable def ykHy [Fuel]:C_band_May:=⟨NN,@z50z _,@z49z _,@kit_IsMode _,@kit_IsKey _,@z23z _,@band_used _,@z30z _,@z31z _⟩
noncomputable def band_May [Fuel]:ykpy:=@ymUy ykHy
def ygry (g:ykpy):Spec A:=fun args=>match args with | [.d (.sl 89 a1),.d (.str a2),.d (.int .i64 a3),.d (.int .i64 a4),.d (.int .i64 a5),.d (.int .i64 a6)]=>fun k=>g a1 a2 a3 a4 a5 a6 (fun z0 z1=>k (.tup [.d (.bool z0),.d (.int .i64 z1)]) [.undef,.undef,.undef,.undef,.undef,.undef]) | _=>fun _=>none
noncomputable def yIsy:Code:=(Tryz.f37.body).getD .skip
noncomputable def yA6y (g:C_band_May):Env A:=mkE [(27,yeFy g.z50z),(60,yc8y g.z49z),(65,ycoy g.kit_IsMode),(66,ybly g.kit_IsKey),(71,ynky g.z23z),(72,yfly g.band_used),(73,ymZy g.z30z),(74,ym3y g.z31z)] [(15,[0]),(47,[1])] [] [] [] [] [] [] [] []
theorem yxxy (g:C_band_May):Same (ygry (@ymUy g)) (abody (yA6y g) Tryz.f37 yIsy 2 [] [.asis,.asis] g.N):=by intro args; unfold ygry; split; exact .inr fun R k=>(by kernel_rfl); exact .inl fun R k=>rfl
theorem yxMy [Fuel]:Ok 37 (ygry (@band_May _)):=yacy std (.cons yhBy (.cons yeDy (.cons yemy (.cons yaXy (.cons yH4y (.cons ywJy (.cons yGpy (.cons yFTy .nil)))))))) ⟨rfl,rfl,by kernel_rfl,rfl,rfl,rfl⟩ (yxxy ykHy) (cuts0 (fun _=>rfl) (by kernel_rfl)) Tryz.func37 (by kernel_rfl) (by kernel_rfl)
abbrev ywyy:Type 1:=List UInt8→{R:Type}→(Bool→Option R)→Option R
def z61z_L4 (g:Nat):Nat→List UInt8→Int→Int→{R:Type}→(Bool→Option R)→Option R→Option R
 | 0,_,_,_,_,_,_=>none
 | n + 1,v2,v3,v4,_,e0,e1=>(bif (decide (v4 < v3)) then (bif ((w64 (Int.tdiv v4 2)) == 1) then (get_ v2 v4 fun x11=>(bif (decide ((x11.toNat:Int) < 48)) then e0 false else (get_ v2 v4 fun x12=>(bif (decide ((x12.toNat:Int) > 57)) then e0 false else z61z_L4 g n v2 v3 (w64 (v4 + 1)) e0 e1)))) else (bif ((w64 (Int.tdiv v4 2)) == 2) then (get_ v2 v4 fun x13=>(bif (decide ((x13.toNat:Int) < 97)) then e0 false else (get_ v2 v4 fun x14=>(bif (decide ((x14.toNat:Int) > 120)) then e0 false else z61z_L4 g n v2 v3 (w64 (v4 + 1)) e0 e1)))) else (get_ v2 v4 fun x15=>(bif (decide ((x15.toNat:Int) < 97)) then e0 false else (get_ v2 v4 fun x16=>(bif (decide ((x16.toNat:Int) > 114)) then e0 false else z61z_L4 g n v2 v3 (w64 (v4 + 1)) e0 e1)))))) else e1)
def z61z_ (g:Nat) (a1:List UInt8) {R:Type} (k0:Bool→Option R):Option R :=
 (bif ((a1.length:Int) != 2) then (bif ((a1.length:Int) != 4) then (bif ((a1.length:Int) != 6) then k0 false else (z61z_L4 g g a1 (a1.length:Int) 0 (fun e17=>k0 e17) (k0 true))) else (z61z_L4 g g a1 (a1.length:Int) 0 (fun e18=>k0 e18) (k0 true))) else (z61z_L4 g g a1 (a1.length:Int) 0 (fun e19=>k0 e19) (k0 true)))
noncomputable def z61z [Fuel]:ywyy:=@z61z_ NN
def ynOy (g:ywyy):Spec A:=fun args=>match args with | [.d (.str a1)]=>fun k=>g a1 (fun z0=>k (.d (.bool z0)) [.undef]) | _=>fun _=>none
def ykuy:SSt:=mkSh 43 0 [(0,.str),(20,.int .i64),(21,.int .i64)] []
def yeWy (g:Nat) (n:Nat):LPT A:=fun ps=>match ps with | [.d (.str p1),.d (.int .i64 p2),.d (.int .i64 p3)]=>fun K=>z61z_L4 g n p1 p2 p3 (fun z0=>K .ret (mkSt 43 0 [(2,.d (.bool z0))] [])) (K (.exit 0) (mkSt 43 0 [] [])) | _=>fun _=>none
noncomputable def yu6y:Code:=(Tryz.f156.body).getD .skip
noncomputable def yppy (g:Nat):Env A:=mkE [] [] [(4,⟨[0,20,21],[],[],[],[],[],[]⟩)] [(4,⟨[2],[],[],[],[],[],[]⟩)] [(4,yaiy ykuy (yeWy g g))] [] [] [] [] []
theorem yG6y [Fuel]:yamy (yppy NN).C:=ct_of (P:=Tryz.prog) (T:=T) .nil (by kernel_rfl)
noncomputable def ypiy:Code:=sub [1,1,0,1,0,0] yu6y
theorem yCiy (g:Nat) (n:Nat):yaoy (yppy g) g ypiy ykuy (yeWy g) n:=by intro ps; unfold yeWy; split; exact .inr fun R K=>(by kernel_rfl); exact .inl fun R K=>rfl
theorem yAAy [Fuel]:yahy (yppy NN) NN ypiy:=yaky ykuy (yeWy NN) (by kernel_rfl) yG6y (cuts0 (fun _=>rfl) (by kernel_rfl)) (fun ps R K=>by unfold yeWy; split <;> (try unfold z61z_L4) <;> rfl) (yCiy NN)
theorem yH6y (g:Nat):Same (ynOy (@z61z_ g)) (abody (yppy g) Tryz.f156 yu6y 0 [] [.asis] g):=by intro args; unfold ynOy; split; exact .inr fun R k=>(by kernel_rfl); exact .inl fun R k=>rfl
theorem yGyy [Fuel]:Ok 156 (ynOy (@z61z _)):=yacy std .nil ⟨rfl,rfl,by kernel_rfl,rfl,rfl,rfl⟩ (yH6y NN) (cutsL (fun _=>rfl) (.cons yAAy .nil) (by kernel_rfl)) Tryz.func156 (by kernel_rfl) (by kernel_rfl)
abbrev yvey:Type 1:=List UInt8→{R:Type}→(Bool→Option R)→Option R
structure C_z81z where
 N:Nat
 z61z:ywyy
def z81z_ (g:C_z81z) (a1:List UInt8) {R:Type} (k0:Bool→Option R):Option R :=
 (bif ((a1.length:Int) == 6) then (g.z61z a1 (fun r2=>k0 r2)) else k0 false)
noncomputable def yCny [Fuel]:C_z81z:=⟨NN,@z61z _⟩
noncomputable def z81z [Fuel]:yvey:=@z81z_ yCny
def ynty (g:yvey):Spec A:=fun args=>match args with | [.d (.str a1)]=>fun k=>g a1 (fun z0=>k (.d (.bool z0)) [.undef]) | _=>fun _=>none
noncomputable def yDOy:Code:=(Tryz.f115.body).getD .skip
noncomputable def yKCy (g:C_z81z):Env A:=mkE [(156,ynOy g.z61z)] [] [] [] [] [] [] [] [] []
theorem yFIy (g:C_z81z):Same (ynty (@z81z_ g)) (abody (yKCy g) Tryz.f115 yDOy 0 [] [.asis] g.N):=by intro args; unfold ynty; split; exact .inr fun R k=>(by kernel_rfl); exact .inl fun R k=>rfl
theorem yyYy [Fuel]:Ok 115 (ynty (@z81z _)):=yacy std (.cons yGyy .nil) ⟨rfl,rfl,by kernel_rfl,rfl,rfl,rfl⟩ (yFIy yCny) (cuts0 (fun _=>rfl) (by kernel_rfl)) Tryz.func115 (by kernel_rfl) (by kernel_rfl)
end Go.Am
