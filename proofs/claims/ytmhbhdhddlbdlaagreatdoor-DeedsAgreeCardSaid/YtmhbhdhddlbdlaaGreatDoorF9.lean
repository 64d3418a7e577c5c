/- The functions of the program as Lean functions, each shown to be what the code computes, part 9. No condition: lemmas for the claim. -/
import Derived.Test.YtmhbhdhddlbdlaaGreatDoorF0
import Derived.Test.YtmhbhdhddlbdlaaGreatDoorFSh
import Derived.Test.YtmhbhdhddlbdlaaGreatDoorF4
import Derived.Test.YtmhbhdhddlbdlaaGreatDoorF8
set_option linter.unusedVariables false
set_option maxRecDepth 100000
namespace Go.Am
open Go Go.Proofs
abbrev yu4y:Type 1:=List G_Segment→{R:Type}→(Int→Option R)→Option R
structure C_z22z where
 N:Nat
 kit_IsKey:ybDy
 z29z:yxmy
 kit_IsTime:yiAy
 z56z:yysy
def z22z_L4 (g:C_z22z):Nat→List G_Segment→List G_Segment→Int→Int→{R:Type}→(Int→Option R)→Option R→Option R
 | 0,_,_,_,_,_,_,_=>none
 | n + 1,v2,v3,v4,v5,_,e0,e1=>(bif (decide (v5 < v4)) then (get_ v3 v5 fun x12=>(g.kit_IsKey x12.f_Class (fun r13=>(bif (!r13) then e0 5 else (bif (decide (x12.f_Low < 0)) then e0 1 else (bif (decide (x12.f_Low ≥ x12.f_High)) then e0 1 else (bif (decide (x12.f_High > 30000000000)) then e0 1 else (g.z29z x12.f_Modes (fun r14=>(bif (r14 != 0) then e0 r14 else (g.kit_IsTime x12.f_Time (fun r15=>(bif (!r15) then e0 1 else (bif (decide (v5 > 0)) then (get_ v2 (w64 (v5 - 1)) fun x16=>(g.z56z x16 x12 (fun r17=>(bif (decide (r17 ≥ 0)) then e0 7 else z22z_L4 g n v2 v3 v4 (w64 (v5 + 1)) e0 e1)))) else z22z_L4 g n v2 v3 v4 (w64 (v5 + 1)) e0 e1)))))))))))))) else e1)
def z22z_ (g:C_z22z) (a1:List G_Segment) {R:Type} (k0:Int→Option R):Option R :=
 (bif (decide ((a1.length:Int) > 500)) then k0 2 else (z22z_L4 g g.N a1 a1 (a1.length:Int) 0 (fun e18=>k0 e18) (k0 0)))
noncomputable def ydYy [Fuel]:C_z22z:=⟨NN,@kit_IsKey _,@z29z _,@kit_IsTime _,@z56z _⟩
noncomputable def z22z [Fuel]:yu4y:=@z22z_ ydYy
def yoJy (g:yu4y):Spec A:=fun args=>match args with | [.d (.sl 92 a1)]=>fun k=>g a1 (fun z0=>k (.d (.int .i64 z0)) [.undef]) | _=>fun _=>none
def ylYy:SSt:=mkSh 58 1 [(0,.sl 92),(9,.sl 92),(10,.int .i64),(11,.int .i64)] []
def yfyy (g:C_z22z) (n:Nat):LPT A:=fun ps=>match ps with | [.d (.sl 92 p1),.d (.sl 92 p2),.d (.int .i64 p3),.d (.int .i64 p4)]=>fun K=>z22z_L4 g n p1 p2 p3 p4 (fun z0=>K .ret (mkSt 58 1 [(2,.d (.int .i64 z0))] [])) (K (.exit 0) (mkSt 58 1 [] [])) | _=>fun _=>none
noncomputable def yBiy:Code:=(Tryz.f79.body).getD .skip
noncomputable def yrRy (g:C_z22z):Env A:=mkE [(80,ybiy g.kit_IsKey),(134,yody g.z29z),(135,yeJy g.kit_IsTime),(136,yoiy g.z56z)] [(4,[0])] [(4,⟨[0,9,10,11],[],[],[],[],[],[]⟩)] [(4,⟨[2],[],[],[],[],[],[]⟩)] [(4,yajy ylYy (yfyy g g.N))] [] [] [] [] []
theorem yIay [Fuel]:yaky (yrRy ydYy).C:=ct_of (P:=Tryz.prog) (T:=T) (.cons yaVy (.cons yBJy (.cons ymyy (.cons yAXy .nil)))) (by kernel_rfl)
noncomputable def yq9y:Code:=sub [1,1,0,1,0,0] yBiy
theorem yDJy (g:C_z22z) (n:Nat):yaoy (yrRy g) g.N yq9y ylYy (yfyy g) n:=by intro ps;unfold yfyy;split;exact .inr fun R K=>(by kernel_rfl);exact .inl fun R K=>rfl
theorem yCky [Fuel]:yagy (yrRy ydYy) NN yq9y:=yaly ylYy (yfyy ydYy) (by kernel_rfl) yIay (cuts0 (fun _=>rfl) (by kernel_rfl)) (fun ps R K=>by unfold yfyy;split <;> (try unfold z22z_L4) <;> rfl) (yDJy ydYy)
theorem yIoy (g:C_z22z):Same (yoJy (@z22z_ g)) (abody (yrRy g) Tryz.f79 yBiy 1 [] [.asis] g.N):=by intro args;unfold yoJy;split;exact .inr fun R k=>(by kernel_rfl);exact .inl fun R k=>rfl
theorem yJly [Fuel]:Ok 79 (yoJy (@z22z _)):=yacy std (.cons yaVy (.cons yBJy (.cons ymyy (.cons yAXy .nil)))) ⟨rfl,rfl,by kernel_rfl,rfl,rfl,rfl⟩ (yIoy ydYy) (cutsL (fun _=>rfl) (.cons yCky .nil) (by kernel_rfl)) Tryz.func79 (by kernel_rfl) (by kernel_rfl)
abbrev yj4y:Type 1:=Int→Int→{R:Type}→(G_Row→Option R)→Option R
def ysMy (g:Nat) (a1 a2:Int) {R:Type} (k0:G_Row→Option R):Option R :=
 k0 (⟨(w64 (a1 - (w64 (Int.tdiv a2 2)))),(w64 ((w64 (a1 - (w64 (Int.tdiv a2 2)))) + a2))⟩:G_Row)
noncomputable def band_used [Fuel]:yj4y:=@ysMy NN
def yfEy (g:yj4y):Spec A:=fun args=>match args with | [.d (.int .i64 a1),.d (.int .i64 a2)]=>fun k=>g a1 a2 (fun z0=>k (.agg [.d (.int .i64 z0.f_From),.d (.int .i64 z0.f_To)]) [.undef,.undef]) | _=>fun _=>none
noncomputable def yH6y:Code:=(Tryz.f82.body).getD .skip
noncomputable def yzey (g:Nat):Env A:=mkE [] [(4,[0])] [] [] [] [] [] [] [] []
theorem yydy (g:Nat):Same (yfEy (@ysMy g)) (abody (yzey g) Tryz.f82 yH6y 1 [] [.asis] g):=by intro args;unfold yfEy;split;exact .inr fun R k=>(by kernel_rfl);exact .inl fun R k=>rfl
theorem yxTy [Fuel]:Ok 82 (yfEy (@band_used _)):=yacy std .nil ⟨rfl,rfl,by kernel_rfl,rfl,rfl,rfl⟩ (yydy NN) (cuts0 (fun _=>rfl) (by kernel_rfl)) Tryz.func82 (by kernel_rfl) (by kernel_rfl)
abbrev ym7y:Type 1:=G_Window→Int→{R:Type}→(Bool→Option R)→Option R
def yqiy (g:Nat) (a1:G_Window) (a2:Int) {R:Type} (k0:Bool→Option R):Option R :=
 (bif (decide (a1.f_From≤a2)) then k0 (decide (a2 < a1.f_To)) else k0 false)
noncomputable def kit_Has [Fuel]:ym7y:=@yqiy NN
def yhZy (g:ym7y):Spec A:=fun args=>match args with | [.agg [.d (.int .i64 a1),.d (.int .i64 a2)],.d (.int .i64 a3)]=>fun k=>g ⟨a1,a2⟩ a3 (fun z0=>k (.d (.bool z0)) [.undef,.undef]) | _=>fun _=>none
noncomputable def yFZy:Code:=(Tryz.f140.body).getD .skip
noncomputable def yFuy (g:Nat):Env A:=mkE [] [(2,[0])] [] [] [] [] [] [] [] []
theorem yDcy (g:Nat):Same (yhZy (@yqiy g)) (abody (yFuy g) Tryz.f140 yFZy 1 [] [.asis] g):=by intro args;unfold yhZy;split;exact .inr fun R k=>(by kernel_rfl);exact .inl fun R k=>rfl
theorem yruy [Fuel]:Ok 140 (yhZy (@kit_Has _)):=yacy std .nil ⟨rfl,rfl,by kernel_rfl,rfl,rfl,rfl⟩ (yDcy NN) (cuts0 (fun _=>rfl) (by kernel_rfl)) Tryz.func140 (by kernel_rfl) (by kernel_rfl)
abbrev ywhy:Type 1:=List Int→Int→{R:Type}→(Int→Option R)→Option R
def z46z_L2 (g:Nat):Nat→List Int→Int→Int→Int→{R:Type}→(Int→Option R)→Option R→Option R
 | 0,_,_,_,_,_,_,_=>none
 | n + 1,v3,v4,v5,v6,_,e0,e1=>(bif (decide (v6 < v5)) then (get_ v3 v6 fun x8=>(bif (v4 == x8) then e0 v6 else z46z_L2 g n v3 v4 v5 (w64 (v6 + 1)) e0 e1)) else e1)
def z46z_ (g:Nat) (a1:List Int) (a2:Int) {R:Type} (k0:Int→Option R):Option R :=
 (z46z_L2 g g a1 a2 (a1.length:Int) 0 (fun e9=>k0 e9) (k0 (-1)))
noncomputable def z46z [Fuel]:ywhy:=@z46z_ NN
def yoDy (g:ywhy):Spec A:=fun args=>match args with | [.d (.sl 3 a1),.d (.int .i64 a2)]=>fun k=>g a1 a2 (fun z0=>k (.d (.int .i64 z0)) [.undef,.undef]) | _=>fun _=>none
def ylSy:SSt:=mkSh 19 0 [(0,.sl 3),(1,.int .i64),(7,.int .i64),(8,.int .i64)] []
def yfHy (g:Nat) (n:Nat):LPT A:=fun ps=>match ps with | [.d (.sl 3 p1),.d (.int .i64 p2),.d (.int .i64 p3),.d (.int .i64 p4)]=>fun K=>z46z_L2 g n p1 p2 p3 p4 (fun z0=>K .ret (mkSt 19 0 [(4,.d (.int .i64 z0))] [])) (K (.exit 0) (mkSt 19 0 [] [])) | _=>fun _=>none
noncomputable def ywQy:Code:=(Tryz.f204.body).getD .skip
noncomputable def yq7y (g:Nat):Env A:=mkE [] [] [(2,⟨[0,1,7,8],[],[],[],[],[],[]⟩)] [(2,⟨[4],[],[],[],[],[],[]⟩)] [(2,yajy ylSy (yfHy g g))] [] [] [] [] []
theorem yKXy [Fuel]:yaky (yq7y NN).C:=ct_of (P:=Tryz.prog) (T:=T) .nil (by kernel_rfl)
noncomputable def yrpy:Code:=sub [1,0,1,0,0] ywQy
theorem yDYy (g:Nat) (n:Nat):yaoy (yq7y g) g yrpy ylSy (yfHy g) n:=by intro ps;unfold yfHy;split;exact .inr fun R K=>(by kernel_rfl);exact .inl fun R K=>rfl
theorem yC6y [Fuel]:yagy (yq7y NN) NN yrpy:=yaly ylSy (yfHy NN) (by kernel_rfl) yKXy (cuts0 (fun _=>rfl) (by kernel_rfl)) (fun ps R K=>by unfold yfHy;split <;> (try unfold z46z_L2) <;> rfl) (yDYy NN)
theorem yLly (g:Nat):Same (yoDy (@z46z_ g)) (abody (yq7y g) Tryz.f204 ywQy 0 [] [.asis] g):=by intro args;unfold yoDy;split;exact .inr fun R k=>(by kernel_rfl);exact .inl fun R k=>rfl
theorem yL3y [Fuel]:Ok 204 (yoDy (@z46z _)):=yacy std .nil ⟨rfl,rfl,by kernel_rfl,rfl,rfl,rfl⟩ (yLly NN) (cutsL (fun _=>rfl) (.cons yC6y .nil) (by kernel_rfl)) Tryz.func204 (by kernel_rfl) (by kernel_rfl)
abbrev yvYy:Type 1:=List Int→Int→{R:Type}→(Bool→Option R)→Option R
structure C_z57z where
 N:Nat
 z46z:ywhy
def z57z_ (g:C_z57z) (a1:List Int) (a2:Int) {R:Type} (k0:Bool→Option R):Option R :=
 (g.z46z a1 a2 (fun r3=>k0 (decide (r3 ≥ 0))))
noncomputable def yyLy [Fuel]:C_z57z:=⟨NN,@z46z _⟩
noncomputable def z57z [Fuel]:yvYy:=@z57z_ yyLy
def yoIy (g:yvYy):Spec A:=fun args=>match args with | [.d (.sl 3 a1),.d (.int .i64 a2)]=>fun k=>g a1 a2 (fun z0=>k (.d (.bool z0)) [.undef,.undef]) | _=>fun _=>none
noncomputable def yGcy:Code:=(Tryz.f139.body).getD .skip
noncomputable def yN6y (g:C_z57z):Env A:=mkE [(204,yoDy g.z46z)] [] [] [] [] [] [] [] [] []
theorem yImy (g:C_z57z):Same (yoIy (@z57z_ g)) (abody (yN6y g) Tryz.f139 yGcy 0 [] [.asis] g.N):=by intro args;unfold yoIy;split;exact .inr fun R k=>(by kernel_rfl);exact .inl fun R k=>rfl
theorem yAsy [Fuel]:Ok 139 (yoIy (@z57z _)):=yacy std (.cons yL3y .nil) ⟨rfl,rfl,by kernel_rfl,rfl,rfl,rfl⟩ (yImy yyLy) (cuts0 (fun _=>rfl) (by kernel_rfl)) Tryz.func139 (by kernel_rfl) (by kernel_rfl)
abbrev yE0y:Type 1:=G_Row→G_Row→{R:Type}→(Int→Option R)→Option R
def z47z_ (g:Nat) (a1 a2:G_Row) {R:Type} (k0:Int→Option R):Option R :=
 k0 (w64 (a1.f_From - a2.f_From))
noncomputable def z47z [Fuel]:yE0y:=@z47z_ NN
def ygRy (g:yE0y):Spec A:=fun args=>match args with | [.agg [.d (.int .i64 a1),.d (.int .i64 a2)],.agg [.d (.int .i64 a3),.d (.int .i64 a4)]]=>fun k=>g ⟨a1,a2⟩ ⟨a3,a4⟩ (fun z0=>k (.d (.int .i64 z0)) [.undef,.undef]) | _=>fun _=>none
noncomputable def yxJy:Code:=(Tryz.f206.body).getD .skip
noncomputable def yMAy (g:Nat):Env A:=mkE [] [(2,[0]),(3,[1])] [] [] [] [] [] [] [] []
theorem yKTy (g:Nat):Same (ygRy (@z47z_ g)) (abody (yMAy g) Tryz.f206 yxJy 2 [] [.asis] g):=by intro args;unfold ygRy;split;exact .inr fun R k=>(by kernel_rfl);exact .inl fun R k=>rfl
theorem ok_z47z [Fuel]:Ok 206 (ygRy (@z47z _)):=yacy std .nil ⟨rfl,rfl,by kernel_rfl,rfl,rfl,rfl⟩ (yKTy NN) (cuts0 (fun _=>rfl) (by kernel_rfl)) Tryz.func206 (by kernel_rfl) (by kernel_rfl)
noncomputable def yJey (g:Nat):Env A:=mkED [] [(2,[0]),(3,[1])] [] [] [] [] [] [] [] []
theorem yHDy (g:Nat):Same (ygRy (@z47z_ g)) (abody (yJey g) Tryz.f206 yxJy 2 [] [.asis] g):=by intro args;unfold ygRy;split;exact .inr fun R k=>(by kernel_rfl);exact .inl fun R k=>rfl
theorem yvEy [Fuel]:OkD 206 (ygRy (@z47z _)):=yacy stdD .nil ⟨rfl,rfl,by kernel_rfl,rfl,rfl,rfl⟩ (yHDy NN) (cuts0 (fun _=>rfl) (by kernel_rfl)) Tryz.func206 (by kernel_rfl) (by kernel_rfl)
abbrev yviy:Type 1:=List G_Row→{R:Type}→(List G_Row→Option R)→Option R
noncomputable def z39z [Fuel]:yviy:=@ybOy G_Row (@z47z _)
def ykMy (g:yviy):Spec A:=fun args=>match args with | [.arr 134 a1,.fn 206 []]=>fun k=>g a1 (fun z=>k (.tup []) [.arr 134 z,.fn 206 []]) | _=>fun _=>none
theorem yAwy [Fuel] (xs:List (A 134)) (R:Type) (k:IV A→List (IV A)→Option R):ykMy (@z39z _) [.arr 134 xs,.fn 206 []] k = ybOy (α:=A 134) (@z47z _) xs (fun z=>k (.tup []) [.arr 134 z,.fn 206 []]):=by kernel_rfl
theorem yBsy [Fuel] (args:List (IV A)) (R:Type) (k:IV A→List (IV A)→Option R) (h:∀ xs:List (A 134),args≠[.arr 134 xs,.fn 206 []]):ykMy (@z39z _) args k = none:=by unfold ykMy;split;exact absurd rfl (h _);rfl
theorem yJSy [Fuel] (x y:A 134) (R:Type) (k:Int→Option R):ykBy T (ygRy (@z47z _)) 134 x y k = @z47z _ x y R k:=by kernel_rfl
theorem yJFy (x:G_Row):(ymby x).all scal = true:=rfl
theorem yz5y [Fuel]:Ok 205 (ykMy (@z39z _)):=⟨yg4y (tyOk Tryz.prog) (e:=134) Tryz.sortf205 Tryz.isAgg134 Tryz.sizeOf134 (fun x d hd=>List.all_eq_true.1 (yJFy x) d hd) yJSy yvEy.fs yvEy.en yAwy yBsy,yl3y (e:=134) yAwy yBsy,enters_of (fn:=Tryz.f205) Tryz.func205 (by kernel_rfl) (by kernel_rfl)⟩
abbrev ywDy:Type 1:=List G_Row→{R:Type}→(List G_Row→Option R)→Option R
structure C_z14z where
 N:Nat
 z39z:yviy
def z14z_L4 (g:C_z14z):Nat→Int→Int→List G_Row→List G_Row→{R:Type}→(List G_Row→Option R)→Option R
 | 0,_,_,_,_,_,_=>none
 | n + 1,v3,v4,v5,v6,_,e0=>(bif (decide (v4 < v3)) then (inr v5 v4 (at_ v5 v4 fun x11=>(bif (decide ((w64 ((v6.length:Int) - 1)) ≥ 0)) then (inr v6 (w64 ((v6.length:Int) - 1)) (at_ v6 (w64 ((v6.length:Int) - 1)) fun x12=>(bif (decide (x11.f_From≤x12.f_To)) then (inr v6 (w64 ((v6.length:Int) - 1)) (at_ v6 (w64 ((v6.length:Int) - 1)) fun x13=>(inr v6 (w64 ((v6.length:Int) - 1)) (at_ v6 (w64 ((v6.length:Int) - 1)) fun x14=>z14z_L4 g n v3 (w64 (v4 + 1)) v5 (set_ v6 (w64 ((v6.length:Int) - 1)) (⟨x14.f_From,(if x11.f_To > x13.f_To then x11.f_To else x13.f_To)⟩:G_Row)) e0)))) else (bif (decide ((v6.length + [x11].length) * 16≤yady)) then z14z_L4 g n v3 (w64 (v4 + 1)) v5 (v6++[x11]) e0 else none)))) else (bif (decide ((v6.length + [x11].length) * 16≤yady)) then z14z_L4 g n v3 (w64 (v4 + 1)) v5 (v6++[x11]) e0 else none)))) else e0 v6)
def z14z_ (g:C_z14z) (a1:List G_Row) {R:Type} (k0:List G_Row→Option R):Option R :=
 (g.z39z a1 (fun r2=>(z14z_L4 g g.N (r2.length:Int) 0 r2 [] (fun e15=>k0 e15))))
noncomputable def yc5y [Fuel]:C_z14z:=⟨NN,@z39z _⟩
noncomputable def z14z [Fuel]:ywDy:=@z14z_ yc5y
def yo9y (g:ywDy):Spec A:=fun args=>match args with | [.arr 134 a1]=>fun k=>g a1 (fun z0=>k (.arr 134 z0) [.undef]) | _=>fun _=>none
def ymjy:SSt:=mkSh 48 5 [(3,.own 134 1),(9,.own 134 0),(10,.int .i64),(11,.int .i64)] [(0,.row 134),(1,.row 134)]
def yfBy (g:C_z14z) (n:Nat):LPT A:=fun ps=>match ps with | [.d (.int .i64 p1),.d (.int .i64 p2),.d (.sl 134 p3),.d (.sl 134 p4)]=>fun K=>z14z_L4 g n p1 p2 p3 p4 (fun z0=>K (.exit 0) (mkSt 48 5 [(3,.own 134 1)] [(1,some (.row 134 z0))])) | _=>fun _=>none
noncomputable def ywIy:Code:=(Tryz.f141.body).getD .skip
noncomputable def yqYy (g:C_z14z):Env A:=mkE [(205,ykMy g.z39z)] [(5,[2]),(44,[3]),(45,[4])] [(4,⟨[3,9,10,11],[(3,134,1)],[0],[],[],[],[]⟩)] [(4,⟨[3],[],[1],[],[],[],[]⟩)] [(4,yajy ymjy (yfBy g g.N))] [] [] [] [(205,0)] []
theorem yKjy [Fuel]:yaky (yqYy yc5y).C:=ct_of (P:=Tryz.prog) (T:=T) (.cons yz5y .nil) (by kernel_rfl)
noncomputable def yrFy:Code:=sub [1,1,1,0,1,0,0] ywIy
theorem yDOy (g:C_z14z) (n:Nat):yaoy (yqYy g) g.N yrFy ymjy (yfBy g) n:=by intro ps;unfold yfBy;split;exact .inr fun R K=>(by kernel_rfl);exact .inl fun R K=>rfl
theorem yDpy [Fuel]:yagy (yqYy yc5y) NN yrFy:=yaly ymjy (yfBy yc5y) (by kernel_rfl) yKjy (cuts0 (fun _=>rfl) (by kernel_rfl)) (fun ps R K=>by unfold yfBy;split <;> (try unfold z14z_L4) <;> rfl) (yDOy yc5y)
theorem yJay (g:C_z14z):Same (yo9y (@z14z_ g)) (abody (yqYy g) Tryz.f141 ywIy 5 [0] [.arr 134] g.N):=by intro args;unfold yo9y;split;exact .inr fun R k=>(by kernel_rfl);exact .inl fun R k=>rfl
theorem yBzy [Fuel]:Ok 141 (yo9y (@z14z _)):=yacy std (.cons yz5y .nil) ⟨rfl,rfl,by kernel_rfl,rfl,rfl,rfl⟩ (yJay yc5y) (cutsL (fun _=>rfl) (.cons yDpy .nil) (by kernel_rfl)) Tryz.func141 (by kernel_rfl) (by kernel_rfl)
abbrev yyay:Type 1:=List G_Segment→List UInt8→Int→Int→{R:Type}→(List G_Row→Option R)→Option R
structure C_z30z where
 N:Nat
 z57z:yvYy
 kit_Has:ym7y
 z14z:ywDy
def z30z_L3 (g:C_z30z):Nat→List UInt8→Int→Int→List G_Segment→Int→Int→List G_Row→{R:Type}→(List G_Row→Option R)→Option R
 | 0,_,_,_,_,_,_,_,_,_=>none
 | n + 1,v5,v6,v7,v8,v9,v10,v11,_,e0=>(bif (decide (v10 < v9)) then (get_ v8 v10 fun x16=>(bif (x16.f_Class == v5) then (bif (v6 == 0) then (g.kit_Has x16.f_Time v7 (fun r17=>(bif r17 then (bif (decide ((v11.length + [(⟨x16.f_Low,x16.f_High⟩:G_Row)].length) * 16≤yady)) then z30z_L3 g n v5 v6 v7 v8 v9 (w64 (v10 + 1)) (v11++[(⟨x16.f_Low,x16.f_High⟩:G_Row)]) e0 else none) else z30z_L3 g n v5 v6 v7 v8 v9 (w64 (v10 + 1)) v11 e0))) else (g.z57z x16.f_Modes v6 (fun r18=>(bif r18 then (g.kit_Has x16.f_Time v7 (fun r19=>(bif r19 then (bif (decide ((v11.length + [(⟨x16.f_Low,x16.f_High⟩:G_Row)].length) * 16≤yady)) then z30z_L3 g n v5 v6 v7 v8 v9 (w64 (v10 + 1)) (v11++[(⟨x16.f_Low,x16.f_High⟩:G_Row)]) e0 else none) else z30z_L3 g n v5 v6 v7 v8 v9 (w64 (v10 + 1)) v11 e0))) else z30z_L3 g n v5 v6 v7 v8 v9 (w64 (v10 + 1)) v11 e0)))) else z30z_L3 g n v5 v6 v7 v8 v9 (w64 (v10 + 1)) v11 e0)) else e0 v11)
def z30z_ (g:C_z30z) (a1:List G_Segment) (a2:List UInt8) (a3 a4:Int) {R:Type} (k0:List G_Row→Option R):Option R :=
 (z30z_L3 g g.N a2 a3 a4 a1 (a1.length:Int) 0 [] (fun e20=>(g.z14z e20 (fun r21=>k0 r21))))
noncomputable def ydgy [Fuel]:C_z30z:=⟨NN,@z57z _,@kit_Has _,@z14z _⟩
noncomputable def z30z [Fuel]:yyay:=@z30z_ ydgy
def yoRy (g:yyay):Spec A:=fun args=>match args with | [.d (.sl 92 a1),.d (.str a2),.d (.int .i64 a3),.d (.int .i64 a4)]=>fun k=>g a1 a2 a3 a4 (fun z0=>k (.arr 134 z0) [.undef,.undef,.undef,.undef]) | _=>fun _=>none
def ylXy:SSt:=mkSh 49 5 [(1,.str),(2,.int .i64),(3,.int .i64),(9,.own 134 0),(12,.sl 92),(13,.int .i64),(14,.int .i64)] [(0,.row 134)]
def yfAy (g:C_z30z) (n:Nat):LPT A:=fun ps=>match ps with | [.d (.str p1),.d (.int .i64 p2),.d (.int .i64 p3),.d (.sl 92 p4),.d (.int .i64 p5),.d (.int .i64 p6),.d (.sl 134 p7)]=>fun K=>z30z_L3 g n p1 p2 p3 p4 p5 p6 p7 (fun z0=>K (.exit 0) (mkSt 49 5 [(9,.own 134 0)] [(0,some (.row 134 z0))])) | _=>fun _=>none
noncomputable def yz6y:Code:=(Tryz.f84.body).getD .skip
noncomputable def ysEy (g:C_z30z):Env A:=mkE [(139,yoIy g.z57z),(140,yhZy g.kit_Has),(141,yo9y g.z14z)] [(11,[1]),(44,[2]),(45,[3]),(48,[4])] [(3,⟨[1,2,3,9,12,13,14],[(9,134,0)],[],[],[],[],[]⟩)] [(3,⟨[9],[],[0],[],[],[],[]⟩)] [(3,yajy ylXy (yfAy g g.N))] [] [] [] [(141,0)] []
theorem yH7y [Fuel]:yaky (ysEy ydgy).C:=ct_of (P:=Tryz.prog) (T:=T) (.cons yAsy (.cons yruy (.cons yBzy .nil))) (by kernel_rfl)
noncomputable def yrBy:Code:=sub [1,1,0,1,0,0] yz6y
theorem yDLy (g:C_z30z) (n:Nat):yaoy (ysEy g) g.N yrBy ylXy (yfAy g) n:=by intro ps;unfold yfAy;split;exact .inr fun R K=>(by kernel_rfl);exact .inl fun R K=>rfl
theorem yDjy [Fuel]:yagy (ysEy ydgy) NN yrBy:=yaly ylXy (yfAy ydgy) (by kernel_rfl) yH7y (cuts0 (fun _=>rfl) (by kernel_rfl)) (fun ps R K=>by unfold yfAy;split <;> (try unfold z30z_L3) <;> rfl) (yDLy ydgy)
theorem yIJy (g:C_z30z):Same (yoRy (@z30z_ g)) (abody (ysEy g) Tryz.f84 yz6y 5 [] [.arr 134] g.N):=by intro args;unfold yoRy;split;exact .inr fun R k=>(by kernel_rfl);exact .inl fun R k=>rfl
theorem yJLy [Fuel]:Ok 84 (yoRy (@z30z _)):=yacy std (.cons yAsy (.cons yruy (.cons yBzy .nil))) ⟨rfl,rfl,by kernel_rfl,rfl,rfl,rfl⟩ (yIJy ydgy) (cutsL (fun _=>rfl) (.cons yDjy .nil) (by kernel_rfl)) Tryz.func84 (by kernel_rfl) (by kernel_rfl)
abbrev yiBy:Type 1:=G_Row→G_Row→{R:Type}→(Bool→G_Row→Option R)→Option R
def yjVy (g:Nat) (a1 a2:G_Row) {R:Type} (k0:Bool→G_Row→Option R):Option R :=
 (bif (decide (a1.f_From≤a2.f_From)) then k0 (decide (a2.f_To≤a1.f_To)) a2 else k0 false a2)
noncomputable def band_May_1 [Fuel]:yiBy:=@yjVy NN
def yeMy (g:yiBy):Spec A:=fun args=>match args with | [.agg [.d (.int .i64 a1),.d (.int .i64 a2)],.box [.d (.int .i64 a3),.d (.int .i64 a4)]]=>fun k=>g ⟨a1,a2⟩ ⟨a3,a4⟩ (fun z0 z1=>k (.d (.bool z0)) [.undef,.box [.d (.int .i64 z1.f_From),.d (.int .i64 z1.f_To)]]) | _=>fun _=>none
noncomputable def yJIy:Code:=(Tryz.f85.body).getD .skip
noncomputable def yxuy (g:Nat):Env A:=mkE [] [(2,[1])] [] [] [] [] [] [] [] [1]
theorem yuCy (g:Nat):Same (yeMy (@yjVy g)) (abody (yxuy g) Tryz.f85 yJIy 2 [0] [.asis] g):=by intro args;unfold yeMy;split;exact .inr fun R k=>(by kernel_rfl);exact .inl fun R k=>rfl
theorem ymAy [Fuel]:Ok 85 (yeMy (@band_May_1 _)):=yacy std .nil ⟨rfl,rfl,by kernel_rfl,rfl,rfl,rfl⟩ (yuCy NN) (cuts0 (fun _=>rfl) (by kernel_rfl)) Tryz.func85 (by kernel_rfl) (by kernel_rfl)
abbrev T_z6z:Type 1:=List G_Row→G_Row→{R:Type}→(Int→G_Row→Option R)→Option R
structure C_z6z where
 N:Nat
 band_May_1:yiBy
def z6z_L2 (g:C_z6z):Nat→List G_Row→Int→Int→G_Row→{R:Type}→(Int→G_Row→Option R)→(G_Row→Option R)→Option R
 | 0,_,_,_,_,_,_,_=>none
 | n + 1,v3,v4,v5,v6,_,e0,e1=>(bif (decide (v5 < v4)) then (get_ v3 v5 fun x10=>(g.band_May_1 x10 v6 (fun r11 r12=>(bif r11 then e0 v5 r12 else z6z_L2 g n v3 v4 (w64 (v5 + 1)) r12 e0 e1)))) else e1 v6)
def z6z_ (g:C_z6z) (a1:List G_Row) (a2:G_Row) {R:Type} (k0:Int→G_Row→Option R):Option R :=
 (z6z_L2 g g.N a1 (a1.length:Int) 0 a2 (fun e13 e14=>k0 e13 e14) (fun e15=>k0 (-1) e15))
noncomputable def I_z6z [Fuel]:C_z6z:=⟨NN,@band_May_1 _⟩
noncomputable def z6z [Fuel]:T_z6z:=@z6z_ I_z6z
def yrHy (g:T_z6z):Spec A:=fun args=>match args with | [.d (.sl 134 a1),.fn 85 [.box [.d (.int .i64 a2),.d (.int .i64 a3)]]]=>fun k=>g a1 ⟨a2,a3⟩ (fun z0 z1=>k (.d (.int .i64 z0)) [.undef,.fn 85 [.box [.d (.int .i64 z1.f_From),.d (.int .i64 z1.f_To)]]]) | _=>fun _=>none
def ynWy:SSt:=mkSh 19 1 [(0,.sl 134),(1,.fn 85 [.ptr 0 0]),(7,.int .i64),(8,.int .i64)] [(0,.box [.int .i64,.int .i64])]
def yhyy (g:C_z6z) (n:Nat):LPT A:=fun ps=>match ps with | [.d (.sl 134 p1),.d (.int .i64 p2),.d (.int .i64 p3),.d (.int .i64 p4),.d (.int .i64 p5)]=>fun K=>z6z_L2 g n p1 p2 p3 ⟨p4,p5⟩ (fun z0 z1=>K .ret (mkSt 19 1 [(1,.fn 85 [.ptr 0 0]),(4,.d (.int .i64 z0))] [(0,some (.box [.d (.int .i64 z1.f_From),.d (.int .i64 z1.f_To)]))])) (fun z0=>K (.exit 0) (mkSt 19 1 [(1,.fn 85 [.ptr 0 0])] [(0,some (.box [.d (.int .i64 z0.f_From),.d (.int .i64 z0.f_To)]))])) | _=>fun _=>none
noncomputable def yxqy:Code:=(Tryz.f138.body).getD .skip
noncomputable def E_z6z (g:C_z6z):Env A:=mkE [(85,yeMy g.band_May_1)] [] [(2,⟨[0,1,7,8],[],[0],[],[],[],[]⟩)] [(2,⟨[1,4],[],[0],[],[],[],[]⟩)] [(2,yajy ynWy (yhyy g g.N))] [] [] [] [] [1]
theorem yMKy [Fuel]:yaky (E_z6z I_z6z).C:=ct_of (P:=Tryz.prog) (T:=T) (.cons ymAy .nil) (by kernel_rfl)
noncomputable def ytNy:Code:=sub [1,0,1,0,0] yxqy
theorem yHxy (g:C_z6z) (n:Nat):yaoy (E_z6z g) g.N ytNy ynWy (yhyy g) n:=by intro ps;unfold yhyy;split;exact .inr fun R K=>(by kernel_rfl);exact .inl fun R K=>rfl
theorem yFny [Fuel]:yagy (E_z6z I_z6z) NN ytNy:=yaly ynWy (yhyy I_z6z) (by kernel_rfl) yMKy (cuts0 (fun _=>rfl) (by kernel_rfl)) (fun ps R K=>by unfold yhyy;split <;> (try unfold z6z_L2) <;> rfl) (yHxy I_z6z)
theorem yMuy (g:C_z6z):Same (yrHy (@z6z_ g)) (abody (E_z6z g) Tryz.f138 yxqy 1 [0] [.asis] g.N):=by intro args;unfold yrHy;split;exact .inr fun R k=>(by kernel_rfl);exact .inl fun R k=>rfl
theorem yNTy [Fuel]:Ok 138 (yrHy (@z6z _)):=yacy std (.cons ymAy .nil) ⟨rfl,rfl,by kernel_rfl,rfl,rfl,rfl⟩ (yMuy I_z6z) (cutsL (fun _=>rfl) (.cons yFny .nil) (by kernel_rfl)) Tryz.func138 (by kernel_rfl) (by kernel_rfl)
abbrev yvwy:Type 1:=List G_Row→G_Row→{R:Type}→(Bool→G_Row→Option R)→Option R
structure C_z31z where
 N:Nat
 z6z:T_z6z
def z31z_ (g:C_z31z) (a1:List G_Row) (a2:G_Row) {R:Type} (k0:Bool→G_Row→Option R):Option R :=
 (g.z6z a1 a2 (fun r3 r4=>k0 (decide (r3 ≥ 0)) r4))
noncomputable def ywey [Fuel]:C_z31z:=⟨NN,@z6z _⟩
noncomputable def z31z [Fuel]:yvwy:=@z31z_ ywey
def yoCy (g:yvwy):Spec A:=fun args=>match args with | [.d (.sl 134 a1),.fn 85 [.box [.d (.int .i64 a2),.d (.int .i64 a3)]]]=>fun k=>g a1 ⟨a2,a3⟩ (fun z0 z1=>k (.d (.bool z0)) [.undef,.fn 85 [.box [.d (.int .i64 z1.f_From),.d (.int .i64 z1.f_To)]]]) | _=>fun _=>none
noncomputable def yJny:Code:=(Tryz.f83.body).getD .skip
noncomputable def yMTy (g:C_z31z):Env A:=mkE [(138,yrHy g.z6z)] [] [] [] [] [] [] [] [(138,0)] [1]
theorem yIXy (g:C_z31z):Same (yoCy (@z31z_ g)) (abody (yMTy g) Tryz.f83 yJny 1 [0] [.asis] g.N):=by intro args;unfold yoCy;split;exact .inr fun R k=>(by kernel_rfl);exact .inl fun R k=>rfl
theorem yL7y [Fuel]:Ok 83 (yoCy (@z31z _)):=yacy std (.cons yNTy .nil) ⟨rfl,rfl,by kernel_rfl,rfl,rfl,rfl⟩ (yIXy ywey) (cuts0 (fun _=>rfl) (by kernel_rfl)) Tryz.func83 (by kernel_rfl) (by kernel_rfl)
abbrev ylxy:Type 1:=List G_Segment→List UInt8→Int→Int→Int→Int→{R:Type}→(Bool→Int→Option R)→Option R
structure C_band_May where
 N:Nat
 z54z:ykCy
 z45z:yfTy
 z22z:yu4y
 kit_IsKey:ybDy
 kit_IsMode:yd0y
 band_used:yj4y
 z31z:yvwy
 z30z:yyay
def ymSy (g:C_band_May) (a1:List G_Segment) (a2:List UInt8) (a3 a4 a5 a6:Int) {R:Type} (k0:Bool→Int→Option R):Option R :=
 (g.z22z a1 (fun r7=>(bif (r7 != 0) then k0 false r7 else (g.kit_IsKey a2 (fun r8=>(bif (!r8) then k0 false 5 else (g.z45z a3 0 30000000000 (fun r9=>(bif r9 then k0 false 1 else (g.z45z a4 1 100000 (fun r10=>(bif r10 then k0 false 1 else (g.kit_IsMode a5 (fun r11=>(bif (!r11) then k0 false 4 else (g.z54z a6 (fun r12=>(bif (!r12) then k0 false 1 else (g.band_used a3 a4 (fun r13=>(g.z30z a1 a2 a5 a6 (fun r14=>(g.z31z r14 r13 (fun r15 r16=>k0 r15 0))))))))))))))))))))))))
noncomputable def ylhy [Fuel]:C_band_May:=⟨NN,@z54z _,@z45z _,@z22z _,@kit_IsKey _,@kit_IsMode _,@band_used _,@z31z _,@z30z _⟩
noncomputable def band_May [Fuel]:ylxy:=@ymSy ylhy
def yhky (g:ylxy):Spec A:=fun args=>match args with | [.d (.sl 92 a1),.d (.str a2),.d (.int .i64 a3),.d (.int .i64 a4),.d (.int .i64 a5),.d (.int .i64 a6)]=>fun k=>g a1 a2 a3 a4 a5 a6 (fun z0 z1=>k (.tup [.d (.bool z0),.d (.int .i64 z1)]) [.undef,.undef,.undef,.undef,.undef,.undef]) | _=>fun _=>none
noncomputable def yI3y:Code:=(Tryz.f38.body).getD .skip
noncomputable def yDky (g:C_band_May):Env A:=mkE [(62,ygIy g.z54z),(63,ydvy g.z45z),(79,yoJy g.z22z),(80,ybiy g.kit_IsKey),(81,ycwy g.kit_IsMode),(82,yfEy g.band_used),(83,yoCy g.z31z),(84,yoRy g.z30z)] [(15,[0]),(47,[1])] [] [] [] [] [] [] [] []
theorem yzuy (g:C_band_May):Same (yhky (@ymSy g)) (abody (yDky g) Tryz.f38 yI3y 2 [] [.asis,.asis] g.N):=by intro args;unfold yhky;split;exact .inr fun R k=>(by kernel_rfl);exact .inl fun R k=>rfl
theorem yzZy [Fuel]:Ok 38 (yhky (@band_May _)):=yacy std (.cons ypiy (.cons yfey (.cons yJly (.cons yaVy (.cons yeIy (.cons yxTy (.cons yL7y (.cons yJLy .nil)))))))) ⟨rfl,rfl,by kernel_rfl,rfl,rfl,rfl⟩ (yzuy ylhy) (cuts0 (fun _=>rfl) (by kernel_rfl)) Tryz.func38 (by kernel_rfl) (by kernel_rfl)
abbrev yxGy:Type 1:=List UInt8→{R:Type}→(Bool→Option R)→Option R
def z63z_L4 (g:Nat):Nat→List UInt8→Int→Int→{R:Type}→(Bool→Option R)→Option R→Option R
 | 0,_,_,_,_,_,_=>none
 | n + 1,v2,v3,v4,_,e0,e1=>(bif (decide (v4 < v3)) then (bif ((w64 (Int.tdiv v4 2)) == 1) then (get_ v2 v4 fun x11=>(bif (decide ((x11.toNat:Int) < 48)) then e0 false else (get_ v2 v4 fun x12=>(bif (decide ((x12.toNat:Int) > 57)) then e0 false else z63z_L4 g n v2 v3 (w64 (v4 + 1)) e0 e1)))) else (bif ((w64 (Int.tdiv v4 2)) == 2) then (get_ v2 v4 fun x13=>(bif (decide ((x13.toNat:Int) < 97)) then e0 false else (get_ v2 v4 fun x14=>(bif (decide ((x14.toNat:Int) > 120)) then e0 false else z63z_L4 g n v2 v3 (w64 (v4 + 1)) e0 e1)))) else (get_ v2 v4 fun x15=>(bif (decide ((x15.toNat:Int) < 97)) then e0 false else (get_ v2 v4 fun x16=>(bif (decide ((x16.toNat:Int) > 114)) then e0 false else z63z_L4 g n v2 v3 (w64 (v4 + 1)) e0 e1)))))) else e1)
def z63z_ (g:Nat) (a1:List UInt8) {R:Type} (k0:Bool→Option R):Option R :=
 (bif ((a1.length:Int) != 2) then (bif ((a1.length:Int) != 4) then (bif ((a1.length:Int) != 6) then k0 false else (z63z_L4 g g a1 (a1.length:Int) 0 (fun e17=>k0 e17) (k0 true))) else (z63z_L4 g g a1 (a1.length:Int) 0 (fun e18=>k0 e18) (k0 true))) else (z63z_L4 g g a1 (a1.length:Int) 0 (fun e19=>k0 e19) (k0 true)))
noncomputable def z63z [Fuel]:yxGy:=@z63z_ NN
def yoky (g:yxGy):Spec A:=fun args=>match args with | [.d (.str a1)]=>fun k=>g a1 (fun z0=>k (.d (.bool z0)) [.undef]) | _=>fun _=>none
def ylwy:SSt:=mkSh 43 0 [(0,.str),(20,.int .i64),(21,.int .i64)] []
def yfFy (g:Nat) (n:Nat):LPT A:=fun ps=>match ps with | [.d (.str p1),.d (.int .i64 p2),.d (.int .i64 p3)]=>fun K=>z63z_L4 g n p1 p2 p3 (fun z0=>K .ret (mkSt 43 0 [(2,.d (.bool z0))] [])) (K (.exit 0) (mkSt 43 0 [] [])) | _=>fun _=>none
noncomputable def ywmy:Code:=(Tryz.f207.body).getD .skip
noncomputable def yrWy (g:Nat):Env A:=mkE [] [] [(4,⟨[0,20,21],[],[],[],[],[],[]⟩)] [(4,⟨[2],[],[],[],[],[],[]⟩)] [(4,yajy ylwy (yfFy g g))] [] [] [] [] []
theorem yK6y [Fuel]:yaky (yrWy NN).C:=ct_of (P:=Tryz.prog) (T:=T) .nil (by kernel_rfl)
noncomputable def yr5y:Code:=sub [1,1,0,1,0,0] ywmy
theorem yEYy (g:Nat) (n:Nat):yaoy (yrWy g) g yr5y ylwy (yfFy g) n:=by intro ps;unfold yfFy;split;exact .inr fun R K=>(by kernel_rfl);exact .inl fun R K=>rfl
theorem yB6y [Fuel]:yagy (yrWy NN) NN yr5y:=yaly ylwy (yfFy NN) (by kernel_rfl) yK6y (cuts0 (fun _=>rfl) (by kernel_rfl)) (fun ps R K=>by unfold yfFy;split <;> (try unfold z63z_L4) <;> rfl) (yEYy NN)
theorem yJNy (g:Nat):Same (yoky (@z63z_ g)) (abody (yrWy g) Tryz.f207 ywmy 0 [] [.asis] g):=by intro args;unfold yoky;split;exact .inr fun R k=>(by kernel_rfl);exact .inl fun R k=>rfl
theorem yJKy [Fuel]:Ok 207 (yoky (@z63z _)):=yacy std .nil ⟨rfl,rfl,by kernel_rfl,rfl,rfl,rfl⟩ (yJNy NN) (cutsL (fun _=>rfl) (.cons yB6y .nil) (by kernel_rfl)) Tryz.func207 (by kernel_rfl) (by kernel_rfl)
abbrev yyby:Type 1:=List UInt8→{R:Type}→(Bool→Option R)→Option R
structure C_z87z where
 N:Nat
 z63z:yxGy
def z87z_ (g:C_z87z) (a1:List UInt8) {R:Type} (k0:Bool→Option R):Option R :=
 (bif ((a1.length:Int) == 6) then (g.z63z a1 (fun r2=>k0 r2)) else k0 false)
noncomputable def yEFy [Fuel]:C_z87z:=⟨NN,@z63z _⟩
noncomputable def z87z [Fuel]:yyby:=@z87z_ yEFy
def yoey (g:yyby):Spec A:=fun args=>match args with | [.d (.str a1)]=>fun k=>g a1 (fun z0=>k (.d (.bool z0)) [.undef]) | _=>fun _=>none
noncomputable def yG0y:Code:=(Tryz.f142.body).getD .skip
noncomputable def yMYy (g:C_z87z):Env A:=mkE [(207,yoky g.z63z)] [] [] [] [] [] [] [] [] []
theorem yIWy (g:C_z87z):Same (yoey (@z87z_ g)) (abody (yMYy g) Tryz.f142 yG0y 0 [] [.asis] g.N):=by intro args;unfold yoey;split;exact .inr fun R k=>(by kernel_rfl);exact .inl fun R k=>rfl
theorem yz4y [Fuel]:Ok 142 (yoey (@z87z _)):=yacy std (.cons yJKy .nil) ⟨rfl,rfl,by kernel_rfl,rfl,rfl,rfl⟩ (yIWy yEFy) (cuts0 (fun _=>rfl) (by kernel_rfl)) Tryz.func142 (by kernel_rfl) (by kernel_rfl)
end Go.Am
