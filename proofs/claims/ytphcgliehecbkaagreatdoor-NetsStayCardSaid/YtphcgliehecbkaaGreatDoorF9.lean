/- The functions of the program as Lean functions, each shown to be what the code computes, part 9. No condition: lemmas for the claim. -/
import Derived.Test.YtphcgliehecbkaaGreatDoorF0
import Derived.Test.YtphcgliehecbkaaGreatDoorFSh
import Derived.Test.YtphcgliehecbkaaGreatDoorF1
import Derived.Test.YtphcgliehecbkaaGreatDoorF4
import Derived.Test.YtphcgliehecbkaaGreatDoorF5
import Derived.Test.YtphcgliehecbkaaGreatDoorF8
set_option linter.unusedVariables false
set_option maxRecDepth 100000
namespace Go.Am
open Go Go.Proofs
abbrev ytKy:Type 1:=List Int→Int→{R:Type}→(Bool→Option R)→Option R
structure C_z56z where
 N:Nat
 z43z:ysXy
def z56z_ (g:C_z56z) (a1:List Int) (a2:Int) {R:Type} (k0:Bool→Option R):Option R :=
 (g.z43z a1 a2 (fun r3=>k0 (decide (r3 ≥ 0))))
noncomputable def yuQy [Fuel]:C_z56z:=⟨NN,@z43z _⟩
noncomputable def z56z [Fuel]:ytKy:=@z56z_ yuQy
def ylVy (g:ytKy):Spec A:=fun args=>match args with | [.d (.sl 3 a1),.d (.int .i64 a2)]=>fun k=>g a1 a2 (fun z0=>k (.d (.bool z0)) [.undef,.undef]) | _=>fun _=>none
noncomputable def yCsy:Code:=(Tryz.f118.body).getD .skip
noncomputable def yJmy (g:C_z56z):Env A:=mkE [(151,ymly g.z43z)] [] [] [] [] [] [] [] [] []
theorem yGTy (g:C_z56z):Same (ylVy (@z56z_ g)) (abody (yJmy g) Tryz.f118 yCsy 0 [] [.asis] g.N):=by intro args; unfold ylVy; split; exact .inr fun R k=>(by kernel_rfl); exact .inl fun R k=>rfl
theorem yxgy [Fuel]:Ok 118 (ylVy (@z56z _)):=yacy std (.cons yEJy .nil) ⟨rfl,rfl,by kernel_rfl,rfl,rfl,rfl⟩ (yGTy yuQy) (cuts0 (fun _=>rfl) (by kernel_rfl)) Tryz.func118 (by kernel_rfl) (by kernel_rfl)
abbrev yBhy:Type 1:=G_Row→G_Row→{R:Type}→(Int→Option R)→Option R
def z44z_ (g:Nat) (a1 a2:G_Row) {R:Type} (k0:Int→Option R):Option R :=
 k0 (w64 (a1.f_From - a2.f_From))
noncomputable def z44z [Fuel]:yBhy:=@z44z_ NN
def yfEy (g:yBhy):Spec A:=fun args=>match args with | [.agg [.d (.int .i64 a1),.d (.int .i64 a2)],.agg [.d (.int .i64 a3),.d (.int .i64 a4)]]=>fun k=>g ⟨a1,a2⟩ ⟨a3,a4⟩ (fun z0=>k (.d (.int .i64 z0)) [.undef,.undef]) | _=>fun _=>none
noncomputable def yuJy:Code:=(Tryz.f153.body).getD .skip
noncomputable def yH3y (g:Nat):Env A:=mkE [] [(2,[0]),(3,[1])] [] [] [] [] [] [] [] []
theorem yEIy (g:Nat):Same (yfEy (@z44z_ g)) (abody (yH3y g) Tryz.f153 yuJy 2 [] [.asis] g):=by intro args; unfold yfEy; split; exact .inr fun R k=>(by kernel_rfl); exact .inl fun R k=>rfl
theorem ok_z44z [Fuel]:Ok 153 (yfEy (@z44z _)):=yacy std .nil ⟨rfl,rfl,by kernel_rfl,rfl,rfl,rfl⟩ (yEIy NN) (cuts0 (fun _=>rfl) (by kernel_rfl)) Tryz.func153 (by kernel_rfl) (by kernel_rfl)
noncomputable def yGUy (g:Nat):Env A:=mkED [] [(2,[0]),(3,[1])] [] [] [] [] [] [] [] []
theorem yCZy (g:Nat):Same (yfEy (@z44z_ g)) (abody (yGUy g) Tryz.f153 yuJy 2 [] [.asis] g):=by intro args; unfold yfEy; split; exact .inr fun R k=>(by kernel_rfl); exact .inl fun R k=>rfl
theorem yu0y [Fuel]:OkD 153 (yfEy (@z44z _)):=yacy stdD .nil ⟨rfl,rfl,by kernel_rfl,rfl,rfl,rfl⟩ (yCZy NN) (cuts0 (fun _=>rfl) (by kernel_rfl)) Tryz.func153 (by kernel_rfl) (by kernel_rfl)
abbrev ysQy:Type 1:=List G_Row→{R:Type}→(List G_Row→Option R)→Option R
noncomputable def z37z [Fuel]:ysQy:=@ybwy G_Row (@z44z _)
def yiRy (g:ysQy):Spec A:=fun args=>match args with | [.arr 117 a1,.fn 153 []]=>fun k=>g a1 (fun z=>k (.tup []) [.arr 117 z,.fn 153 []]) | _=>fun _=>none
theorem ywFy [Fuel] (xs:List (A 117)) (R:Type) (k:IV A→List (IV A)→Option R):yiRy (@z37z _) [.arr 117 xs,.fn 153 []] k = ybwy (α:=A 117) (@z44z _) xs (fun z=>k (.tup []) [.arr 117 z,.fn 153 []]):=by kernel_rfl
theorem ywVy [Fuel] (args:List (IV A)) (R:Type) (k:IV A→List (IV A)→Option R) (h:∀ xs:List (A 117),args ≠ [.arr 117 xs,.fn 153 []]):yiRy (@z37z _) args k = none:=by unfold yiRy; split; exact absurd rfl (h _); rfl
theorem yFuy [Fuel] (x y:A 117) (R:Type) (k:Int→Option R):yiyy T (yfEy (@z44z _)) 117 x y k = @z44z _ x y R k:=by kernel_rfl
theorem yHcy (x:G_Row):(yjWy x).all scal = true:=rfl
theorem yxZy [Fuel]:Ok 152 (yiRy (@z37z _)):=⟨yfLy (tyOk Tryz.prog) (e:=117) Tryz.sortf152 Tryz.isAgg117 Tryz.sizeOf117 (fun x d hd=>List.all_eq_true.1 (yHcy x) d hd) yFuy yu0y.fs yu0y.en ywFy ywVy,yjLy (e:=117) ywFy ywVy,yaHy (fn:=Tryz.f152) Tryz.func152 (by kernel_rfl) (by kernel_rfl)⟩
abbrev ytPy:Type 1:=List G_Row→{R:Type}→(List G_Row→Option R)→Option R
structure C_z14z where
 N:Nat
 z37z:ysQy
def z14z_L4 (g:C_z14z):Nat→Int→Int→List G_Row→List G_Row→{R:Type}→(List G_Row→Option R)→Option R
 | 0,_,_,_,_,_,_=>none
 | n + 1,v3,v4,v5,v6,_,e0=>(bif (decide (v4 < v3)) then (inr v5 v4 (at_ v5 v4 fun x11=>(bif (decide ((w64 ((v6.length:Int) - 1)) ≥ 0)) then (inr v6 (w64 ((v6.length:Int) - 1)) (at_ v6 (w64 ((v6.length:Int) - 1)) fun x12=>(bif (decide (x11.f_From≤x12.f_To)) then (inr v6 (w64 ((v6.length:Int) - 1)) (at_ v6 (w64 ((v6.length:Int) - 1)) fun x13=>(inr v6 (w64 ((v6.length:Int) - 1)) (at_ v6 (w64 ((v6.length:Int) - 1)) fun x14=>z14z_L4 g n v3 (w64 (v4 + 1)) v5 (set_ v6 (w64 ((v6.length:Int) - 1)) (⟨x14.f_From,(if x11.f_To > x13.f_To then x11.f_To else x13.f_To)⟩:G_Row)) e0)))) else (bif (decide ((v6.length + [x11].length) * 16≤yady)) then z14z_L4 g n v3 (w64 (v4 + 1)) v5 (v6 ++ [x11]) e0 else none)))) else (bif (decide ((v6.length + [x11].length) * 16≤yady)) then z14z_L4 g n v3 (w64 (v4 + 1)) v5 (v6 ++ [x11]) e0 else none)))) else e0 v6)
def z14z_ (g:C_z14z) (a1:List G_Row) {R:Type} (k0:List G_Row→Option R):Option R :=
 (g.z37z a1 (fun r2=>(z14z_L4 g g.N (r2.length:Int) 0 r2 [] (fun e15=>k0 e15))))
noncomputable def ycdy [Fuel]:C_z14z:=⟨NN,@z37z _⟩
noncomputable def z14z [Fuel]:ytPy:=@z14z_ ycdy
def ymBy (g:ytPy):Spec A:=fun args=>match args with | [.arr 117 a1]=>fun k=>g a1 (fun z0=>k (.arr 117 z0) [.undef]) | _=>fun _=>none
def ykcy:SSt:=mkSh 48 5 [(3,.own 117 1),(9,.own 117 0),(10,.int .i64),(11,.int .i64)] [(0,.row 117),(1,.row 117)]
def yeLy (g:C_z14z) (n:Nat):LPT A:=fun ps=>match ps with | [.d (.int .i64 p1),.d (.int .i64 p2),.d (.sl 117 p3),.d (.sl 117 p4)]=>fun K=>z14z_L4 g n p1 p2 p3 p4 (fun z0=>K (.exit 0) (mkSt 48 5 [(3,.own 117 1)] [(1,some (.row 117 z0))])) | _=>fun _=>none
noncomputable def yuey:Code:=(Tryz.f120.body).getD .skip
noncomputable def yooy (g:C_z14z):Env A:=mkE [(152,yiRy g.z37z)] [(5,[2]),(44,[3]),(45,[4])] [(4,⟨[3,9,10,11],[(3,117,1)],[0],[],[],[],[]⟩)] [(4,⟨[3],[],[1],[],[],[],[]⟩)] [(4,yaiy ykcy (yeLy g g.N))] [] [] [] [(152,0)] []
theorem yEvy [Fuel]:yajy (yooy ycdy).C:=ct_of (P:=Tryz.prog) (T:=T) (.cons yxZy .nil) (by kernel_rfl)
noncomputable def ypzy:Code:=sub [1,1,1,0,1,0,0] yuey
theorem yAly (g:C_z14z) (n:Nat):yamy (yooy g) g.N ypzy ykcy (yeLy g) n:=by intro ps; unfold yeLy; split; exact .inr fun R K=>(by kernel_rfl); exact .inl fun R K=>rfl
theorem yzjy [Fuel]:yagy (yooy ycdy) NN ypzy:=yaky ykcy (yeLy ycdy) (by kernel_rfl) yEvy (cuts0 (fun _=>rfl) (by kernel_rfl)) (fun ps R K=>by unfold yeLy; split <;> (try unfold z14z_L4) <;> rfl) (yAly ycdy)
theorem yEfy (g:C_z14z):Same (ymBy (@z14z_ g)) (abody (yooy g) Tryz.f120 yuey 5 [0] [.arr 117] g.N):=by intro args; unfold ymBy; split; exact .inr fun R k=>(by kernel_rfl); exact .inl fun R k=>rfl
theorem yx7y [Fuel]:Ok 120 (ymBy (@z14z _)):=yacy std (.cons yxZy .nil) ⟨rfl,rfl,by kernel_rfl,rfl,rfl,rfl⟩ (yEfy ycdy) (cutsL (fun _=>rfl) (.cons yzjy .nil) (by kernel_rfl)) Tryz.func120 (by kernel_rfl) (by kernel_rfl)
abbrev ytwy:Type 1:=List G_Segment→List UInt8→Int→Int→{R:Type}→(List G_Row→Option R)→Option R
structure C_z31z where
 N:Nat
 z56z:ytKy
 kit_Has:ykty
 z14z:ytPy
def z31z_L3 (g:C_z31z):Nat→List UInt8→Int→Int→List G_Segment→Int→Int→List G_Row→{R:Type}→(List G_Row→Option R)→Option R
 | 0,_,_,_,_,_,_,_,_,_=>none
 | n + 1,v5,v6,v7,v8,v9,v10,v11,_,e0=>(bif (decide (v10 < v9)) then (get_ v8 v10 fun x16=>(bif (x16.f_Class == v5) then (bif (v6 == 0) then (g.kit_Has x16.f_Time v7 (fun r17=>(bif r17 then (bif (decide ((v11.length + [(⟨x16.f_Low,x16.f_High⟩:G_Row)].length) * 16≤yady)) then z31z_L3 g n v5 v6 v7 v8 v9 (w64 (v10 + 1)) (v11 ++ [(⟨x16.f_Low,x16.f_High⟩:G_Row)]) e0 else none) else z31z_L3 g n v5 v6 v7 v8 v9 (w64 (v10 + 1)) v11 e0))) else (g.z56z x16.f_Modes v6 (fun r18=>(bif r18 then (g.kit_Has x16.f_Time v7 (fun r19=>(bif r19 then (bif (decide ((v11.length + [(⟨x16.f_Low,x16.f_High⟩:G_Row)].length) * 16≤yady)) then z31z_L3 g n v5 v6 v7 v8 v9 (w64 (v10 + 1)) (v11 ++ [(⟨x16.f_Low,x16.f_High⟩:G_Row)]) e0 else none) else z31z_L3 g n v5 v6 v7 v8 v9 (w64 (v10 + 1)) v11 e0))) else z31z_L3 g n v5 v6 v7 v8 v9 (w64 (v10 + 1)) v11 e0)))) else z31z_L3 g n v5 v6 v7 v8 v9 (w64 (v10 + 1)) v11 e0)) else e0 v11)
def z31z_ (g:C_z31z) (a1:List G_Segment) (a2:List UInt8) (a3 a4:Int) {R:Type} (k0:List G_Row→Option R):Option R :=
 (z31z_L3 g g.N a2 a3 a4 a1 (a1.length:Int) 0 [] (fun e20=>(g.z14z e20 (fun r21=>k0 r21))))
noncomputable def yczy [Fuel]:C_z31z:=⟨NN,@z56z _,@kit_Has _,@z14z _⟩
noncomputable def z31z [Fuel]:ytwy:=@z31z_ yczy
def ymby (g:ytwy):Spec A:=fun args=>match args with | [.d (.sl 86 a1),.d (.str a2),.d (.int .i64 a3),.d (.int .i64 a4)]=>fun k=>g a1 a2 a3 a4 (fun z0=>k (.arr 117 z0) [.undef,.undef,.undef,.undef]) | _=>fun _=>none
def yjby:SSt:=mkSh 49 5 [(1,.str),(2,.int .i64),(3,.int .i64),(9,.own 117 0),(12,.sl 86),(13,.int .i64),(14,.int .i64)] [(0,.row 117)]
def yevy (g:C_z31z) (n:Nat):LPT A:=fun ps=>match ps with | [.d (.str p1),.d (.int .i64 p2),.d (.int .i64 p3),.d (.sl 86 p4),.d (.int .i64 p5),.d (.int .i64 p6),.d (.sl 117 p7)]=>fun K=>z31z_L3 g n p1 p2 p3 p4 p5 p6 p7 (fun z0=>K (.exit 0) (mkSt 49 5 [(9,.own 117 0)] [(0,some (.row 117 z0))])) | _=>fun _=>none
noncomputable def yxby:Code:=(Tryz.f79.body).getD .skip
noncomputable def yocy (g:C_z31z):Env A:=mkE [(118,ylVy g.z56z),(119,ygvy g.kit_Has),(120,ymBy g.z14z)] [(11,[1]),(44,[2]),(45,[3]),(48,[4])] [(3,⟨[1,2,3,9,12,13,14],[(9,117,0)],[],[],[],[],[]⟩)] [(3,⟨[9],[],[0],[],[],[],[]⟩)] [(3,yaiy yjby (yevy g g.N))] [] [] [] [(120,0)] []
theorem yHIy [Fuel]:yajy (yocy yczy).C:=ct_of (P:=Tryz.prog) (T:=T) (.cons yxgy (.cons yo8y (.cons yx7y .nil))) (by kernel_rfl)
noncomputable def yojy:Code:=sub [1,1,0,1,0,0] yxby
theorem yBGy (g:C_z31z) (n:Nat):yamy (yocy g) g.N yojy yjby (yevy g) n:=by intro ps; unfold yevy; split; exact .inr fun R K=>(by kernel_rfl); exact .inl fun R K=>rfl
theorem yy3y [Fuel]:yagy (yocy yczy) NN yojy:=yaky yjby (yevy yczy) (by kernel_rfl) yHIy (cuts0 (fun _=>rfl) (by kernel_rfl)) (fun ps R K=>by unfold yevy; split <;> (try unfold z31z_L3) <;> rfl) (yBGy yczy)
theorem yHiy (g:C_z31z):Same (ymby (@z31z_ g)) (abody (yocy g) Tryz.f79 yxby 5 [] [.arr 117] g.N):=by intro args; unfold ymby; split; exact .inr fun R k=>(by kernel_rfl); exact .inl fun R k=>rfl
theorem yGwy [Fuel]:Ok 79 (ymby (@z31z _)):=yacy std (.cons yxgy (.cons yo8y (.cons yx7y .nil))) ⟨rfl,rfl,by kernel_rfl,rfl,rfl,rfl⟩ (yHiy yczy) (cutsL (fun _=>rfl) (.cons yy3y .nil) (by kernel_rfl)) Tryz.func79 (by kernel_rfl) (by kernel_rfl)
abbrev yhey:Type 1:=G_Row→G_Row→{R:Type}→(Bool→G_Row→Option R)→Option R
def yhXy (g:Nat) (a1 a2:G_Row) {R:Type} (k0:Bool→G_Row→Option R):Option R :=
 (bif (decide (a1.f_From≤a2.f_From)) then k0 (decide (a2.f_To≤a1.f_To)) a2 else k0 false a2)
noncomputable def band_May_1 [Fuel]:yhey:=@yhXy NN
def ydGy (g:yhey):Spec A:=fun args=>match args with | [.agg [.d (.int .i64 a1),.d (.int .i64 a2)],.box [.d (.int .i64 a3),.d (.int .i64 a4)]]=>fun k=>g ⟨a1,a2⟩ ⟨a3,a4⟩ (fun z0 z1=>k (.d (.bool z0)) [.undef,.box [.d (.int .i64 z1.f_From),.d (.int .i64 z1.f_To)]]) | _=>fun _=>none
noncomputable def yFVy:Code:=(Tryz.f80.body).getD .skip
noncomputable def yvmy (g:Nat):Env A:=mkE [] [(2,[1])] [] [] [] [] [] [] [] [1]
theorem yrOy (g:Nat):Same (ydGy (@yhXy g)) (abody (yvmy g) Tryz.f80 yFVy 2 [0] [.asis] g):=by intro args; unfold ydGy; split; exact .inr fun R k=>(by kernel_rfl); exact .inl fun R k=>rfl
theorem ykky [Fuel]:Ok 80 (ydGy (@band_May_1 _)):=yacy std .nil ⟨rfl,rfl,by kernel_rfl,rfl,rfl,rfl⟩ (yrOy NN) (cuts0 (fun _=>rfl) (by kernel_rfl)) Tryz.func80 (by kernel_rfl) (by kernel_rfl)
abbrev T_z6z:Type 1:=List G_Row→G_Row→{R:Type}→(Int→G_Row→Option R)→Option R
structure C_z6z where
 N:Nat
 band_May_1:yhey
def z6z_L2 (g:C_z6z):Nat→List G_Row→Int→Int→G_Row→{R:Type}→(Int→G_Row→Option R)→(G_Row→Option R)→Option R
 | 0,_,_,_,_,_,_,_=>none
 | n + 1,v3,v4,v5,v6,_,e0,e1=>(bif (decide (v5 < v4)) then (get_ v3 v5 fun x10=>(g.band_May_1 x10 v6 (fun r11 r12=>(bif r11 then e0 v5 r12 else z6z_L2 g n v3 v4 (w64 (v5 + 1)) r12 e0 e1)))) else e1 v6)
def z6z_ (g:C_z6z) (a1:List G_Row) (a2:G_Row) {R:Type} (k0:Int→G_Row→Option R):Option R :=
 (z6z_L2 g g.N a1 (a1.length:Int) 0 a2 (fun e13 e14=>k0 e13 e14) (fun e15=>k0 (-1) e15))
noncomputable def I_z6z [Fuel]:C_z6z:=⟨NN,@band_May_1 _⟩
noncomputable def z6z [Fuel]:T_z6z:=@z6z_ I_z6z
def ypEy (g:T_z6z):Spec A:=fun args=>match args with | [.d (.sl 117 a1),.fn 80 [.box [.d (.int .i64 a2),.d (.int .i64 a3)]]]=>fun k=>g a1 ⟨a2,a3⟩ (fun z0 z1=>k (.d (.int .i64 z0)) [.undef,.fn 80 [.box [.d (.int .i64 z1.f_From),.d (.int .i64 z1.f_To)]]]) | _=>fun _=>none
def yluy:SSt:=mkSh 19 1 [(0,.sl 117),(1,.fn 80 [.ptr 0 0]),(7,.int .i64),(8,.int .i64)] [(0,.box [.int .i64,.int .i64])]
def ygfy (g:C_z6z) (n:Nat):LPT A:=fun ps=>match ps with | [.d (.sl 117 p1),.d (.int .i64 p2),.d (.int .i64 p3),.d (.int .i64 p4),.d (.int .i64 p5)]=>fun K=>z6z_L2 g n p1 p2 p3 ⟨p4,p5⟩ (fun z0 z1=>K .ret (mkSt 19 1 [(1,.fn 80 [.ptr 0 0]),(4,.d (.int .i64 z0))] [(0,some (.box [.d (.int .i64 z1.f_From),.d (.int .i64 z1.f_To)]))])) (fun z0=>K (.exit 0) (mkSt 19 1 [(1,.fn 80 [.ptr 0 0])] [(0,some (.box [.d (.int .i64 z0.f_From),.d (.int .i64 z0.f_To)]))])) | _=>fun _=>none
noncomputable def yvby:Code:=(Tryz.f117.body).getD .skip
noncomputable def E_z6z (g:C_z6z):Env A:=mkE [(80,ydGy g.band_May_1)] [] [(2,⟨[0,1,7,8],[],[0],[],[],[],[]⟩)] [(2,⟨[1,4],[],[0],[],[],[],[]⟩)] [(2,yaiy yluy (ygfy g g.N))] [] [] [] [] [1]
theorem yJxy [Fuel]:yajy (E_z6z I_z6z).C:=ct_of (P:=Tryz.prog) (T:=T) (.cons ykky .nil) (by kernel_rfl)
noncomputable def yrqy:Code:=sub [1,0,1,0,0] yvby
theorem yC4y (g:C_z6z) (n:Nat):yamy (E_z6z g) g.N yrqy yluy (ygfy g) n:=by intro ps; unfold ygfy; split; exact .inr fun R K=>(by kernel_rfl); exact .inl fun R K=>rfl
theorem yAsy [Fuel]:yagy (E_z6z I_z6z) NN yrqy:=yaky yluy (ygfy I_z6z) (by kernel_rfl) yJxy (cuts0 (fun _=>rfl) (by kernel_rfl)) (fun ps R K=>by unfold ygfy; split <;> (try unfold z6z_L2) <;> rfl) (yC4y I_z6z)
theorem yIKy (g:C_z6z):Same (ypEy (@z6z_ g)) (abody (E_z6z g) Tryz.f117 yvby 1 [0] [.asis] g.N):=by intro args; unfold ypEy; split; exact .inr fun R k=>(by kernel_rfl); exact .inl fun R k=>rfl
theorem yJfy [Fuel]:Ok 117 (ypEy (@z6z _)):=yacy std (.cons ykky .nil) ⟨rfl,rfl,by kernel_rfl,rfl,rfl,rfl⟩ (yIKy I_z6z) (cutsL (fun _=>rfl) (.cons yAsy .nil) (by kernel_rfl)) Tryz.func117 (by kernel_rfl) (by kernel_rfl)
abbrev yuky:Type 1:=List G_Row→G_Row→{R:Type}→(Bool→G_Row→Option R)→Option R
structure C_z30z where
 N:Nat
 z6z:T_z6z
def z30z_ (g:C_z30z) (a1:List G_Row) (a2:G_Row) {R:Type} (k0:Bool→G_Row→Option R):Option R :=
 (g.z6z a1 a2 (fun r3 r4=>k0 (decide (r3 ≥ 0)) r4))
noncomputable def yvyy [Fuel]:C_z30z:=⟨NN,@z6z _⟩
noncomputable def z30z [Fuel]:yuky:=@z30z_ yvyy
def ymMy (g:yuky):Spec A:=fun args=>match args with | [.d (.sl 117 a1),.fn 80 [.box [.d (.int .i64 a2),.d (.int .i64 a3)]]]=>fun k=>g a1 ⟨a2,a3⟩ (fun z0 z1=>k (.d (.bool z0)) [.undef,.fn 80 [.box [.d (.int .i64 z1.f_From),.d (.int .i64 z1.f_To)]]]) | _=>fun _=>none
noncomputable def yGay:Code:=(Tryz.f78.body).getD .skip
noncomputable def yIty (g:C_z30z):Env A:=mkE [(117,ypEy g.z6z)] [] [] [] [] [] [] [] [(117,0)] [1]
theorem yHgy (g:C_z30z):Same (ymMy (@z30z_ g)) (abody (yIty g) Tryz.f78 yGay 1 [0] [.asis] g.N):=by intro args; unfold ymMy; split; exact .inr fun R k=>(by kernel_rfl); exact .inl fun R k=>rfl
theorem yGhy [Fuel]:Ok 78 (ymMy (@z30z _)):=yacy std (.cons yJfy .nil) ⟨rfl,rfl,by kernel_rfl,rfl,rfl,rfl⟩ (yHgy yvyy) (cuts0 (fun _=>rfl) (by kernel_rfl)) Tryz.func78 (by kernel_rfl) (by kernel_rfl)
abbrev yjyy:Type 1:=List G_Segment→List UInt8→Int→Int→Int→Int→{R:Type}→(Bool→Int→Option R)→Option R
structure C_band_May where
 N:Nat
 kit_IsKey:ybpy
 z50z:yeWy
 z58z:yioy
 z22z:ysoy
 kit_IsMode:ycZy
 band_used:yh8y
 z30z:yuky
 z31z:ytwy
def ylAy (g:C_band_May) (a1:List G_Segment) (a2:List UInt8) (a3 a4 a5 a6:Int) {R:Type} (k0:Bool→Int→Option R):Option R :=
 (g.z22z a1 (fun r7=>(bif (r7 != 0) then k0 false r7 else (g.kit_IsKey a2 (fun r8=>(bif (!r8) then k0 false 5 else (g.z50z a3 0 30000000000 (fun r9=>(bif r9 then k0 false 1 else (g.z50z a4 1 100000 (fun r10=>(bif r10 then k0 false 1 else (g.kit_IsMode a5 (fun r11=>(bif (!r11) then k0 false 4 else (g.z58z a6 (fun r12=>(bif (!r12) then k0 false 1 else (g.band_used a3 a4 (fun r13=>(g.z31z a1 a2 a5 a6 (fun r14=>(g.z30z r14 r13 (fun r15 r16=>k0 r15 0))))))))))))))))))))))))
noncomputable def yjhy [Fuel]:C_band_May:=⟨NN,@kit_IsKey _,@z50z _,@z58z _,@z22z _,@kit_IsMode _,@band_used _,@z30z _,@z31z _⟩
noncomputable def band_May [Fuel]:yjyy:=@ylAy yjhy
def yfNy (g:yjyy):Spec A:=fun args=>match args with | [.d (.sl 86 a1),.d (.str a2),.d (.int .i64 a3),.d (.int .i64 a4),.d (.int .i64 a5),.d (.int .i64 a6)]=>fun k=>g a1 a2 a3 a4 a5 a6 (fun z0 z1=>k (.tup [.d (.bool z0),.d (.int .i64 z1)]) [.undef,.undef,.undef,.undef,.undef,.undef]) | _=>fun _=>none
noncomputable def yEUy:Code:=(Tryz.f39.body).getD .skip
noncomputable def yzmy (g:C_band_May):Env A:=mkE [(68,ybay g.kit_IsKey),(69,ycIy g.z50z),(70,yfvy g.z58z),(75,ylNy g.z22z),(76,ybXy g.kit_IsMode),(77,yfby g.band_used),(78,ymMy g.z30z),(79,ymby g.z31z)] [(15,[0]),(47,[1])] [] [] [] [] [] [] [] []
theorem ywky (g:C_band_May):Same (yfNy (@ylAy g)) (abody (yzmy g) Tryz.f39 yEUy 2 [] [.asis,.asis] g.N):=by intro args; unfold yfNy; split; exact .inr fun R k=>(by kernel_rfl); exact .inl fun R k=>rfl
theorem ywgy [Fuel]:Ok 39 (yfNy (@band_May _)):=yacy std (.cons yaOy (.cons yd1y (.cons ymey (.cons yD2y (.cons ydJy (.cons yt4y (.cons yGhy (.cons yGwy .nil)))))))) ⟨rfl,rfl,by kernel_rfl,rfl,rfl,rfl⟩ (ywky yjhy) (cuts0 (fun _=>rfl) (by kernel_rfl)) Tryz.func39 (by kernel_rfl) (by kernel_rfl)
abbrev ytUy:Type 1:=List UInt8→{R:Type}→(Bool→Option R)→Option R
def z61z_L4 (g:Nat):Nat→List UInt8→Int→Int→{R:Type}→(Bool→Option R)→Option R→Option R
 | 0,_,_,_,_,_,_=>none
 | n + 1,v2,v3,v4,_,e0,e1=>(bif (decide (v4 < v3)) then (bif ((w64 (Int.tdiv v4 2)) == 1) then (get_ v2 v4 fun x11=>(bif (decide ((x11.toNat:Int) < 48)) then e0 false else (get_ v2 v4 fun x12=>(bif (decide ((x12.toNat:Int) > 57)) then e0 false else z61z_L4 g n v2 v3 (w64 (v4 + 1)) e0 e1)))) else (bif ((w64 (Int.tdiv v4 2)) == 2) then (get_ v2 v4 fun x13=>(bif (decide ((x13.toNat:Int) < 97)) then e0 false else (get_ v2 v4 fun x14=>(bif (decide ((x14.toNat:Int) > 120)) then e0 false else z61z_L4 g n v2 v3 (w64 (v4 + 1)) e0 e1)))) else (get_ v2 v4 fun x15=>(bif (decide ((x15.toNat:Int) < 97)) then e0 false else (get_ v2 v4 fun x16=>(bif (decide ((x16.toNat:Int) > 114)) then e0 false else z61z_L4 g n v2 v3 (w64 (v4 + 1)) e0 e1)))))) else e1)
def z61z_ (g:Nat) (a1:List UInt8) {R:Type} (k0:Bool→Option R):Option R :=
 (bif ((a1.length:Int) != 2) then (bif ((a1.length:Int) != 4) then (bif ((a1.length:Int) != 6) then k0 false else (z61z_L4 g g a1 (a1.length:Int) 0 (fun e17=>k0 e17) (k0 true))) else (z61z_L4 g g a1 (a1.length:Int) 0 (fun e18=>k0 e18) (k0 true))) else (z61z_L4 g g a1 (a1.length:Int) 0 (fun e19=>k0 e19) (k0 true)))
noncomputable def z61z [Fuel]:ytUy:=@z61z_ NN
def ymKy (g:ytUy):Spec A:=fun args=>match args with | [.d (.str a1)]=>fun k=>g a1 (fun z0=>k (.d (.bool z0)) [.undef]) | _=>fun _=>none
def yjsy:SSt:=mkSh 43 0 [(0,.str),(20,.int .i64),(21,.int .i64)] []
def yeuy (g:Nat) (n:Nat):LPT A:=fun ps=>match ps with | [.d (.str p1),.d (.int .i64 p2),.d (.int .i64 p3)]=>fun K=>z61z_L4 g n p1 p2 p3 (fun z0=>K .ret (mkSt 43 0 [(2,.d (.bool z0))] [])) (K (.exit 0) (mkSt 43 0 [] [])) | _=>fun _=>none
noncomputable def ytcy:Code:=(Tryz.f154.body).getD .skip
noncomputable def ypRy (g:Nat):Env A:=mkE [] [] [(4,⟨[0,20,21],[],[],[],[],[],[]⟩)] [(4,⟨[2],[],[],[],[],[],[]⟩)] [(4,yaiy yjsy (yeuy g g))] [] [] [] [] []
theorem yFQy [Fuel]:yajy (ypRy NN).C:=ct_of (P:=Tryz.prog) (T:=T) .nil (by kernel_rfl)
noncomputable def yn8y:Code:=sub [1,1,0,1,0,0] ytcy
theorem yAgy (g:Nat) (n:Nat):yamy (ypRy g) g yn8y yjsy (yeuy g) n:=by intro ps; unfold yeuy; split; exact .inr fun R K=>(by kernel_rfl); exact .inl fun R K=>rfl
theorem yyYy [Fuel]:yagy (ypRy NN) NN yn8y:=yaky yjsy (yeuy NN) (by kernel_rfl) yFQy (cuts0 (fun _=>rfl) (by kernel_rfl)) (fun ps R K=>by unfold yeuy; split <;> (try unfold z61z_L4) <;> rfl) (yAgy NN)
theorem yHsy (g:Nat):Same (ymKy (@z61z_ g)) (abody (ypRy g) Tryz.f154 ytcy 0 [] [.asis] g):=by intro args; unfold ymKy; split; exact .inr fun R k=>(by kernel_rfl); exact .inl fun R k=>rfl
theorem yFXy [Fuel]:Ok 154 (ymKy (@z61z _)):=yacy std .nil ⟨rfl,rfl,by kernel_rfl,rfl,rfl,rfl⟩ (yHsy NN) (cutsL (fun _=>rfl) (.cons yyYy .nil) (by kernel_rfl)) Tryz.func154 (by kernel_rfl) (by kernel_rfl)
abbrev yuly:Type 1:=List UInt8→{R:Type}→(Bool→Option R)→Option R
structure C_z80z where
 N:Nat
 z61z:ytUy
def z80z_ (g:C_z80z) (a1:List UInt8) {R:Type} (k0:Bool→Option R):Option R :=
 (bif ((a1.length:Int) == 6) then (g.z61z a1 (fun r2=>k0 r2)) else k0 false)
noncomputable def yz1y [Fuel]:C_z80z:=⟨NN,@z61z _⟩
noncomputable def z80z [Fuel]:yuly:=@z80z_ yz1y
def ymiy (g:yuly):Spec A:=fun args=>match args with | [.d (.str a1)]=>fun k=>g a1 (fun z0=>k (.d (.bool z0)) [.undef]) | _=>fun _=>none
noncomputable def yDsy:Code:=(Tryz.f122.body).getD .skip
noncomputable def yI4y (g:C_z80z):Env A:=mkE [(154,ymKy g.z61z)] [] [] [] [] [] [] [] [] []
theorem yGqy (g:C_z80z):Same (ymiy (@z80z_ g)) (abody (yI4y g) Tryz.f122 yDsy 0 [] [.asis] g.N):=by intro args; unfold ymiy; split; exact .inr fun R k=>(by kernel_rfl); exact .inl fun R k=>rfl
theorem yw1y [Fuel]:Ok 122 (ymiy (@z80z _)):=yacy std (.cons yFXy .nil) ⟨rfl,rfl,by kernel_rfl,rfl,rfl,rfl⟩ (yGqy yz1y) (cuts0 (fun _=>rfl) (by kernel_rfl)) Tryz.func122 (by kernel_rfl) (by kernel_rfl)
abbrev yvqy:Type 1:=List G_Entrant→{R:Type}→(Int→Option R)→Option R
structure C_z28z where
 N:Nat
 z24z:yhhy
 strings_Compare:ya2y
 kit_IsKey:ybpy
 z50z:yeWy
 call_Is:yhKy
 z80z:yuly
def z28z_L4 (g:C_z28z):Nat→List G_Entrant→List G_Entrant→Int→Int→{R:Type}→(Int→Option R)→Option R→Option R
 | 0,_,_,_,_,_,_,_=>none
 | n + 1,v2,v3,v4,v5,_,e0,e1=>(bif (decide (v5 < v4)) then (get_ v3 v5 fun x21=>(g.call_Is x21.f_Call (fun r22=>(bif (!r22) then e0 3 else (g.kit_IsKey x21.f_Category (fun r23=>(bif (!r23) then e0 5 else (g.z50z x21.f_Points 0 1000000000000 (fun r24=>(bif r24 then e0 1 else (bif (!(x21.f_Locator == [])) then (g.z80z x21.f_Locator (fun r25=>(bif (!r25) then e0 3 else (bif (decide (v5 > 0)) then (get_ v2 (w64 (v5 - 1)) fun x26=>(get_ v2 (w64 (v5 - 1)) fun x27=>(g.strings_Compare x26.f_Category x21.f_Category (fun r28=>(g.strings_Compare x27.f_Call x21.f_Call (fun r29=>(g.z24z [r28,r29] (fun r30=>(bif (decide (r30 ≥ 0)) then e0 7 else z28z_L4 g n v2 v3 v4 (w64 (v5 + 1)) e0 e1))))))))) else z28z_L4 g n v2 v3 v4 (w64 (v5 + 1)) e0 e1)))) else (bif (decide (v5 > 0)) then (get_ v2 (w64 (v5 - 1)) fun x31=>(get_ v2 (w64 (v5 - 1)) fun x32=>(g.strings_Compare x31.f_Category x21.f_Category (fun r33=>(g.strings_Compare x32.f_Call x21.f_Call (fun r34=>(g.z24z [r33,r34] (fun r35=>(bif (decide (r35 ≥ 0)) then e0 7 else z28z_L4 g n v2 v3 v4 (w64 (v5 + 1)) e0 e1))))))))) else z28z_L4 g n v2 v3 v4 (w64 (v5 + 1)) e0 e1)))))))))))) else e1)
def z28z_ (g:C_z28z) (a1:List G_Entrant) {R:Type} (k0:Int→Option R):Option R :=
 (bif (decide ((a1.length:Int) > 500)) then k0 2 else (z28z_L4 g g.N a1 a1 (a1.length:Int) 0 (fun e36=>k0 e36) (k0 0)))
noncomputable def yiEy [Fuel]:C_z28z:=⟨NN,@z24z _,@strings_Compare _,@kit_IsKey _,@z50z _,@call_Is _,@z80z _⟩
noncomputable def z28z [Fuel]:yvqy:=@z28z_ yiEy
def yl1y (g:yvqy):Spec A:=fun args=>match args with | [.d (.sl 92 a1)]=>fun k=>g a1 (fun z0=>k (.d (.int .i64 z0)) [.undef]) | _=>fun _=>none
def yi8y:SSt:=mkSh 66 2 [(0,.sl 92),(8,.sl 92),(9,.int .i64),(10,.int .i64)] []
def yewy (g:C_z28z) (n:Nat):LPT A:=fun ps=>match ps with | [.d (.sl 92 p1),.d (.sl 92 p2),.d (.int .i64 p3),.d (.int .i64 p4)]=>fun K=>z28z_L4 g n p1 p2 p3 p4 (fun z0=>K .ret (mkSt 66 2 [(2,.d (.int .i64 z0))] [])) (K (.exit 0) (mkSt 66 2 [] [])) | _=>fun _=>none
noncomputable def ywQy:Code:=(Tryz.f81.body).getD .skip
noncomputable def yoYy (g:C_z28z):Env A:=mkE [(63,ybEy g.z24z),(65,yaBy g.strings_Compare),(68,ybay g.kit_IsKey),(69,ycIy g.z50z),(121,yeMy g.call_Is),(122,ymiy g.z80z)] [(4,[0]),(61,[1])] [(4,⟨[0,8,9,10],[],[],[],[],[],[]⟩)] [(4,⟨[2],[],[],[],[],[],[]⟩)] [(4,yaiy yi8y (yewy g g.N))] [] [] [] [] []
theorem yGly [Fuel]:yajy (yoYy yiEy).C:=ct_of (P:=Tryz.prog) (T:=T) (.cons ygKy (.cons ya9y (.cons yaOy (.cons yd1y (.cons ygEy (.cons yw1y .nil)))))) (by kernel_rfl)
noncomputable def ypSy:Code:=sub [1,1,0,1,0,0] ywQy
theorem yAxy (g:C_z28z) (n:Nat):yamy (yoYy g) g.N ypSy yi8y (yewy g) n:=by intro ps; unfold yewy; split; exact .inr fun R K=>(by kernel_rfl); exact .inl fun R K=>rfl
theorem yyEy [Fuel]:yagy (yoYy yiEy) NN ypSy:=yaky yi8y (yewy yiEy) (by kernel_rfl) yGly (cuts0 (fun _=>rfl) (by kernel_rfl)) (fun ps R K=>by unfold yewy; split <;> (try unfold z28z_L4) <;> rfl) (yAxy yiEy)
theorem yHky (g:C_z28z):Same (yl1y (@z28z_ g)) (abody (yoYy g) Tryz.f81 ywQy 2 [] [.asis] g.N):=by intro args; unfold yl1y; split; exact .inr fun R k=>(by kernel_rfl); exact .inl fun R k=>rfl
theorem ywLy [Fuel]:Ok 81 (yl1y (@z28z _)):=yacy std (.cons ygKy (.cons ya9y (.cons yaOy (.cons yd1y (.cons ygEy (.cons yw1y .nil)))))) ⟨rfl,rfl,by kernel_rfl,rfl,rfl,rfl⟩ (yHky yiEy) (cutsL (fun _=>rfl) (.cons yyEy .nil) (by kernel_rfl)) Tryz.func81 (by kernel_rfl) (by kernel_rfl)
abbrev yz9y:Type 1:=G_Place→G_Place→{R:Type}→(Int→Option R)→Option R
structure C_z42z where
 N:Nat
 z24z:yhhy
 z25z:yiBy
 strings_Compare:ya2y
def z42z_ (g:C_z42z) (a1 a2:G_Place) {R:Type} (k0:Int→Option R):Option R :=
 (g.z25z a2.f_Points a1.f_Points (fun r3=>(g.strings_Compare a1.f_Key a2.f_Key (fun r4=>(g.z24z [r3,r4] (fun r5=>k0 r5))))))
noncomputable def ytBy [Fuel]:C_z42z:=⟨NN,@z24z _,@z25z _,@strings_Compare _⟩
noncomputable def z42z [Fuel]:yz9y:=@z42z_ ytBy
def yfBy (g:yz9y):Spec A:=fun args=>match args with | [.agg [.d (.int .i64 a1),.d (.int .i64 a2),.d (.str a3)],.agg [.d (.int .i64 a4),.d (.int .i64 a5),.d (.str a6)]]=>fun k=>g ⟨a1,a2,a3⟩ ⟨a4,a5,a6⟩ (fun z0=>k (.d (.int .i64 z0)) [.undef,.undef]) | _=>fun _=>none
noncomputable def ysKy:Code:=(Tryz.f124.body).getD .skip
noncomputable def yIVy (g:C_z42z):Env A:=mkE [(63,ybEy g.z24z),(64,ybNy g.z25z),(65,yaBy g.strings_Compare)] [(2,[0]),(3,[1]),(15,[2])] [] [] [] [] [] [] [] []
theorem yD0y (g:C_z42z):Same (yfBy (@z42z_ g)) (abody (yIVy g) Tryz.f124 ysKy 3 [] [.asis] g.N):=by intro args; unfold yfBy; split; exact .inr fun R k=>(by kernel_rfl); exact .inl fun R k=>rfl
theorem ok_z42z [Fuel]:Ok 124 (yfBy (@z42z _)):=yacy std (.cons ygKy (.cons ymPy (.cons ya9y .nil))) ⟨rfl,rfl,by kernel_rfl,rfl,rfl,rfl⟩ (yD0y ytBy) (cuts0 (fun _=>rfl) (by kernel_rfl)) Tryz.func124 (by kernel_rfl) (by kernel_rfl)
noncomputable def yD8y (g:C_z42z):Env A:=mkED [(63,ybEy g.z24z),(64,ybNy g.z25z),(65,yaBy g.strings_Compare)] [(2,[0]),(3,[1]),(15,[2])] [] [] [] [] [] [] [] []
theorem yCNy (g:C_z42z):Same (yfBy (@z42z_ g)) (abody (yD8y g) Tryz.f124 ysKy 3 [] [.asis] g.N):=by intro args; unfold yfBy; split; exact .inr fun R k=>(by kernel_rfl); exact .inl fun R k=>rfl
theorem yucy [Fuel]:OkD 124 (yfBy (@z42z _)):=yacy stdD (.cons ynNy (.cons ynVy (.cons ycNy .nil))) ⟨rfl,rfl,by kernel_rfl,rfl,rfl,rfl⟩ (yCNy ytBy) (cuts0 (fun _=>rfl) (by kernel_rfl)) Tryz.func124 (by kernel_rfl) (by kernel_rfl)
abbrev ysyy:Type 1:=List G_Place→{R:Type}→(List G_Place→Option R)→Option R
noncomputable def z34z [Fuel]:ysyy:=@ybwy G_Place (@z42z _)
def yiky (g:ysyy):Spec A:=fun args=>match args with | [.arr 125 a1,.fn 124 []]=>fun k=>g a1 (fun z=>k (.tup []) [.arr 125 z,.fn 124 []]) | _=>fun _=>none
theorem ywGy [Fuel] (xs:List (A 125)) (R:Type) (k:IV A→List (IV A)→Option R):yiky (@z34z _) [.arr 125 xs,.fn 124 []] k = ybwy (α:=A 125) (@z42z _) xs (fun z=>k (.tup []) [.arr 125 z,.fn 124 []]):=by kernel_rfl
theorem yxky [Fuel] (args:List (IV A)) (R:Type) (k:IV A→List (IV A)→Option R) (h:∀ xs:List (A 125),args ≠ [.arr 125 xs,.fn 124 []]):yiky (@z34z _) args k = none:=by unfold yiky; split; exact absurd rfl (h _); rfl
theorem yGpy [Fuel] (x y:A 125) (R:Type) (k:Int→Option R):yiyy T (yfBy (@z42z _)) 125 x y k = @z42z _ x y R k:=by kernel_rfl
theorem yFPy (x:G_Place):(yjNy x).all scal = true:=rfl
theorem yxpy [Fuel]:Ok 123 (yiky (@z34z _)):=⟨yfLy (tyOk Tryz.prog) (e:=125) Tryz.sortf123 Tryz.isAgg125 Tryz.sizeOf125 (fun x d hd=>List.all_eq_true.1 (yFPy x) d hd) yGpy yucy.fs yucy.en ywGy yxky,yjLy (e:=125) ywGy yxky,yaHy (fn:=Tryz.f123) Tryz.func123 (by kernel_rfl) (by kernel_rfl)⟩
end Go.Am
