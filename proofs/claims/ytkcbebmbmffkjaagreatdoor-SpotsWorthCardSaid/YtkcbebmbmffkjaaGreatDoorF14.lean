/- The functions of the program as Lean functions, each shown to be what the code computes, part 14. No condition: lemmas for the claim. -/
import Derived.Test.YtkcbebmbmffkjaaGreatDoorF0
import Derived.Test.YtkcbebmbmffkjaaGreatDoorFSh
import Derived.Test.YtkcbebmbmffkjaaGreatDoorF1
import Derived.Test.YtkcbebmbmffkjaaGreatDoorF2
import Derived.Test.YtkcbebmbmffkjaaGreatDoorF3
import Derived.Test.YtkcbebmbmffkjaaGreatDoorF4
import Derived.Test.YtkcbebmbmffkjaaGreatDoorF5
import Derived.Test.YtkcbebmbmffkjaaGreatDoorF7
import Derived.Test.YtkcbebmbmffkjaaGreatDoorF8
import Derived.Test.YtkcbebmbmffkjaaGreatDoorF9
import Derived.Test.YtkcbebmbmffkjaaGreatDoorF10
import Derived.Test.YtkcbebmbmffkjaaGreatDoorF12
import Derived.Test.YtkcbebmbmffkjaaGreatDoorF13
set_option linter.unusedVariables false
set_option maxRecDepth 100000
namespace Go.Am
open Go Go.Proofs
abbrev yAcy:Type 1:=List Int→Int→{R:Type}→(Int→Option R)→Option R
def z75z_L2 (g:Nat):Nat→List Int→Int→Int→Int→{R:Type}→(Int→Option R)→Option R→Option R
 | 0,_,_,_,_,_,_,_=>none
 | n + 1,v3,v4,v5,v6,_,e0,e1=>(bif (decide (v6 < v5)) then (get_ v3 v6 fun x8=>(bif (v4 == x8) then e0 v6 else z75z_L2 g n v3 v4 v5 (w64 (v6 + 1)) e0 e1)) else e1)
def z75z_ (g:Nat) (a1:List Int) (a2:Int) {R:Type} (k0:Int→Option R):Option R :=
 (z75z_L2 g g a1 a2 (a1.length:Int) 0 (fun e9=>k0 e9) (k0 (-1)))
noncomputable def z75z [Fuel]:yAcy:=@z75z_ NN
def yoty (g:yAcy):Spec A:=fun args=>match args with | [.d (.sl 3 a1),.d (.int .i64 a2)]=>fun k=>g a1 a2 (fun z0=>k (.d (.int .i64 z0)) [.undef,.undef]) | _=>fun _=>none
def ylzy:SSt:=mkSh 19 0 [(0,.sl 3),(1,.int .i64),(7,.int .i64),(8,.int .i64)] []
def yf8y (g:Nat) (n:Nat):LPT A:=fun ps=>match ps with | [.d (.sl 3 p1),.d (.int .i64 p2),.d (.int .i64 p3),.d (.int .i64 p4)]=>fun K=>z75z_L2 g n p1 p2 p3 p4 (fun z0=>K .ret (mkSt 19 0 [(4,.d (.int .i64 z0))] [])) (K (.exit 0) (mkSt 19 0 [] [])) | _=>fun _=>none
noncomputable def yy2y:Code:=(Tryz.f192.body).getD .skip
noncomputable def ysey (g:Nat):Env A:=mkE [] [] [(2,⟨[0,1,7,8],[],[],[],[],[],[]⟩)] [(2,⟨[4],[],[],[],[],[],[]⟩)] [(2,yaey ylzy (yf8y g g))] [] [] [] [] []
theorem yNky [Fuel]:yagy (ysey NN).C:=ct_of (P:=Tryz.prog) (T:=T) .nil (by kernel_rfl)
noncomputable def ysly:Code:=sub [1,0,1,0,0] yy2y
theorem yFty (g:Nat) (n:Nat):yahy (ysey g) g ysly ylzy (yf8y g) n:=by intro ps; unfold yf8y; split; exact .inr fun R K=>(by kernel_rfl); exact .inl fun R K=>rfl
theorem yEEy [Fuel]:yacy (ysey NN) NN ysly:=yaby ylzy (yf8y NN) (by kernel_rfl) yNky (cuts0 (fun _=>rfl) (by kernel_rfl)) (fun ps R K=>by unfold yf8y; split <;> (try unfold z75z_L2) <;> rfl) (yFty NN)
theorem yK0y (g:Nat):Same (yoty (@z75z_ g)) (abody (ysey g) Tryz.f192 yy2y 0 [] [.asis] g):=by intro args; unfold yoty; split; exact .inr fun R k=>(by kernel_rfl); exact .inl fun R k=>rfl
theorem yOfy [Fuel]:Ok 192 (yoty (@z75z _)):=yaay std .nil ⟨rfl,rfl,by kernel_rfl,rfl,rfl,rfl⟩ (yK0y NN) (cutsL (fun _=>rfl) (.cons yEEy .nil) (by kernel_rfl)) Tryz.func192 (by kernel_rfl) (by kernel_rfl)
abbrev yxDy:Type 1:=List Int→Int→{R:Type}→(Bool→Option R)→Option R
structure C_z83z where
 N:Nat
 z75z:yAcy
def z83z_ (g:C_z83z) (a1:List Int) (a2:Int) {R:Type} (k0:Bool→Option R):Option R :=
 (g.z75z a1 a2 (fun r3=>k0 (decide (r3 ≥ 0))))
noncomputable def yyzy [Fuel]:C_z83z:=⟨NN,@z75z _⟩
noncomputable def z83z [Fuel]:yxDy:=@z83z_ yyzy
def ypSy (g:yxDy):Spec A:=fun args=>match args with | [.d (.sl 3 a1),.d (.int .i64 a2)]=>fun k=>g a1 a2 (fun z0=>k (.d (.bool z0)) [.undef,.undef]) | _=>fun _=>none
noncomputable def yG3y:Code:=(Tryz.f153.body).getD .skip
noncomputable def yPjy (g:C_z83z):Env A:=mkE [(192,yoty g.z75z)] [] [] [] [] [] [] [] [] []
theorem yNty (g:C_z83z):Same (ypSy (@z83z_ g)) (abody (yPjy g) Tryz.f153 yG3y 0 [] [.asis] g.N):=by intro args; unfold ypSy; split; exact .inr fun R k=>(by kernel_rfl); exact .inl fun R k=>rfl
theorem yBJy [Fuel]:Ok 153 (ypSy (@z83z _)):=yaay std (.cons yOfy .nil) ⟨rfl,rfl,by kernel_rfl,rfl,rfl,rfl⟩ (yNty yyzy) (cuts0 (fun _=>rfl) (by kernel_rfl)) Tryz.func153 (by kernel_rfl) (by kernel_rfl)
abbrev yF2y:Type 1:=G_Row→G_Row→{R:Type}→(Int→Option R)→Option R
def z77z_ (g:Nat) (a1 a2:G_Row) {R:Type} (k0:Int→Option R):Option R :=
 k0 (w64 (a1.f_From - a2.f_From))
noncomputable def z77z [Fuel]:yF2y:=@z77z_ NN
def ygty (g:yF2y):Spec A:=fun args=>match args with | [.agg [.d (.int .i64 a1),.d (.int .i64 a2)],.agg [.d (.int .i64 a3),.d (.int .i64 a4)]]=>fun k=>g ⟨a1,a2⟩ ⟨a3,a4⟩ (fun z0=>k (.d (.int .i64 z0)) [.undef,.undef]) | _=>fun _=>none
noncomputable def yyIy:Code:=(Tryz.f194.body).getD .skip
noncomputable def yPmy (g:Nat):Env A:=mkE [] [(2,[0]),(3,[1])] [] [] [] [] [] [] [] []
theorem yMHy (g:Nat):Same (ygty (@z77z_ g)) (abody (yPmy g) Tryz.f194 yyIy 2 [] [.asis] g):=by intro args; unfold ygty; split; exact .inr fun R k=>(by kernel_rfl); exact .inl fun R k=>rfl
theorem ok_z77z [Fuel]:Ok 194 (ygty (@z77z _)):=yaay std .nil ⟨rfl,rfl,by kernel_rfl,rfl,rfl,rfl⟩ (yMHy NN) (cuts0 (fun _=>rfl) (by kernel_rfl)) Tryz.func194 (by kernel_rfl) (by kernel_rfl)
noncomputable def yOiy (g:Nat):Env A:=mkED [] [(2,[0]),(3,[1])] [] [] [] [] [] [] [] []
theorem yGZy (g:Nat):Same (ygty (@z77z_ g)) (abody (yOiy g) Tryz.f194 yyIy 2 [] [.asis] g):=by intro args; unfold ygty; split; exact .inr fun R k=>(by kernel_rfl); exact .inl fun R k=>rfl
theorem yy3y [Fuel]:OkD 194 (ygty (@z77z _)):=yaay stdD .nil ⟨rfl,rfl,by kernel_rfl,rfl,rfl,rfl⟩ (yGZy NN) (cuts0 (fun _=>rfl) (by kernel_rfl)) Tryz.func194 (by kernel_rfl) (by kernel_rfl)
abbrev yyPy:Type 1:=List G_Row→{R:Type}→(List G_Row→Option R)→Option R
noncomputable def z67z [Fuel]:yyPy:=@yeHy G_Row (@z77z _)
def ykby (g:yyPy):Spec A:=fun args=>match args with | [.arr 144 a1,.fn 194 []]=>fun k=>g a1 (fun z=>k (.tup []) [.arr 144 z,.fn 194 []]) | _=>fun _=>none
theorem yCZy [Fuel] (xs:List (A 144)) (R:Type) (k:IV A→List (IV A)→Option R):ykby (@z67z _) [.arr 144 xs,.fn 194 []] k = yeHy (α:=A 144) (@z77z _) xs (fun z=>k (.tup []) [.arr 144 z,.fn 194 []]):=by kernel_rfl
theorem yC4y [Fuel] (args:List (IV A)) (R:Type) (k:IV A→List (IV A)→Option R) (h:∀ xs:List (A 144),args ≠ [.arr 144 xs,.fn 194 []]):ykby (@z67z _) args k = none:=by unfold ykby; split; exact absurd rfl (h _); rfl
theorem yOAy [Fuel] (x y:A 144) (R:Type) (k:Int→Option R):yyNy T (ygty (@z77z _)) 144 x y k = @z77z _ x y R k:=by kernel_rfl
theorem yOty (x:G_Row):(ymry x).all scal = true:=rfl
theorem yBGy [Fuel]:Ok 193 (ykby (@z67z _)):=⟨yAqy (tyOk Tryz.prog) (e:=144) Tryz.sortf193 Tryz.isAgg144 Tryz.sizeOf144 (fun x d hd=>List.all_eq_true.1 (yOty x) d hd) yOAy yy3y.fs yy3y.en yCZy yC4y,yJiy (e:=144) yCZy yC4y,ybMy (fn:=Tryz.f193) Tryz.func193 (by kernel_rfl) (by kernel_rfl)⟩
abbrev yz7y:Type 1:=List G_Row→{R:Type}→(List G_Row→Option R)→Option R
structure C_z41z where
 N:Nat
 z67z:yyPy
def z41z_L4 (g:C_z41z):Nat→Int→Int→List G_Row→List G_Row→{R:Type}→(List G_Row→Option R)→Option R
 | 0,_,_,_,_,_,_=>none
 | n + 1,v3,v4,v5,v6,_,e0=>(bif (decide (v4 < v3)) then (inr v5 v4 (at_ v5 v4 fun x11=>(bif (decide ((w64 ((v6.length:Int) - 1)) ≥ 0)) then (inr v6 (w64 ((v6.length:Int) - 1)) (at_ v6 (w64 ((v6.length:Int) - 1)) fun x12=>(bif (decide (x11.f_From≤x12.f_To)) then (inr v6 (w64 ((v6.length:Int) - 1)) (at_ v6 (w64 ((v6.length:Int) - 1)) fun x13=>(inr v6 (w64 ((v6.length:Int) - 1)) (at_ v6 (w64 ((v6.length:Int) - 1)) fun x14=>z41z_L4 g n v3 (w64 (v4 + 1)) v5 (set_ v6 (w64 ((v6.length:Int) - 1)) (⟨x14.f_From,(if x11.f_To > x13.f_To then x11.f_To else x13.f_To)⟩:G_Row)) e0)))) else (bif (decide ((v6.length + [x11].length) * 16≤yazy)) then z41z_L4 g n v3 (w64 (v4 + 1)) v5 (v6 ++ [x11]) e0 else none)))) else (bif (decide ((v6.length + [x11].length) * 16≤yazy)) then z41z_L4 g n v3 (w64 (v4 + 1)) v5 (v6 ++ [x11]) e0 else none)))) else e0 v6)
def z41z_ (g:C_z41z) (a1:List G_Row) {R:Type} (k0:List G_Row→Option R):Option R :=
 (g.z67z a1 (fun r2=>(z41z_L4 g g.N (r2.length:Int) 0 r2 [] (fun e15=>k0 e15))))
noncomputable def ycDy [Fuel]:C_z41z:=⟨NN,@z67z _⟩
noncomputable def z41z [Fuel]:yz7y:=@z41z_ ycDy
def ypFy (g:yz7y):Spec A:=fun args=>match args with | [.arr 144 a1]=>fun k=>g a1 (fun z0=>k (.arr 144 z0) [.undef]) | _=>fun _=>none
def ylJy:SSt:=mkSh 48 5 [(3,.own 144 1),(9,.own 144 0),(10,.int .i64),(11,.int .i64)] [(0,.row 144),(1,.row 144)]
def yeYy (g:C_z41z) (n:Nat):LPT A:=fun ps=>match ps with | [.d (.int .i64 p1),.d (.int .i64 p2),.d (.sl 144 p3),.d (.sl 144 p4)]=>fun K=>z41z_L4 g n p1 p2 p3 p4 (fun z0=>K (.exit 0) (mkSt 48 5 [(3,.own 144 1)] [(1,some (.row 144 z0))])) | _=>fun _=>none
noncomputable def yz9y:Code:=(Tryz.f155.body).getD .skip
noncomputable def ysVy (g:C_z41z):Env A:=mkE [(193,ykby g.z67z)] [(5,[2]),(44,[3]),(45,[4])] [(4,⟨[3,9,10,11],[(3,144,1)],[0],[],[],[],[]⟩)] [(4,⟨[3],[],[1],[],[],[],[]⟩)] [(4,yaey ylJy (yeYy g g.N))] [] [] [] [(193,0)] []
theorem yKvy [Fuel]:yagy (ysVy ycDy).C:=ct_of (P:=Tryz.prog) (T:=T) (.cons yBGy .nil) (by kernel_rfl)
noncomputable def ysYy:Code:=sub [1,1,1,0,1,0,0] yz9y
theorem yFAy (g:C_z41z) (n:Nat):yahy (ysVy g) g.N ysYy ylJy (yeYy g) n:=by intro ps; unfold yeYy; split; exact .inr fun R K=>(by kernel_rfl); exact .inl fun R K=>rfl
theorem yDJy [Fuel]:yacy (ysVy ycDy) NN ysYy:=yaby ylJy (yeYy ycDy) (by kernel_rfl) yKvy (cuts0 (fun _=>rfl) (by kernel_rfl)) (fun ps R K=>by unfold yeYy; split <;> (try unfold z41z_L4) <;> rfl) (yFAy ycDy)
theorem yLCy (g:C_z41z):Same (ypFy (@z41z_ g)) (abody (ysVy g) Tryz.f155 yz9y 5 [0] [.arr 144] g.N):=by intro args; unfold ypFy; split; exact .inr fun R k=>(by kernel_rfl); exact .inl fun R k=>rfl
theorem yCBy [Fuel]:Ok 155 (ypFy (@z41z _)):=yaay std (.cons yBGy .nil) ⟨rfl,rfl,by kernel_rfl,rfl,rfl,rfl⟩ (yLCy ycDy) (cutsL (fun _=>rfl) (.cons yDJy .nil) (by kernel_rfl)) Tryz.func155 (by kernel_rfl) (by kernel_rfl)
abbrev yyjy:Type 1:=List G_Segment→List UInt8→Int→Int→{R:Type}→(List G_Row→Option R)→Option R
structure C_z63z where
 N:Nat
 z83z:yxDy
 kit_Has:ynqy
 z41z:yz7y
def z63z_L3 (g:C_z63z):Nat→List UInt8→Int→Int→List G_Segment→Int→Int→List G_Row→{R:Type}→(List G_Row→Option R)→Option R
 | 0,_,_,_,_,_,_,_,_,_=>none
 | n + 1,v5,v6,v7,v8,v9,v10,v11,_,e0=>(bif (decide (v10 < v9)) then (get_ v8 v10 fun x16=>(bif (x16.f_Class == v5) then (bif (v6 == 0) then (g.kit_Has x16.f_Time v7 (fun r17=>(bif r17 then (bif (decide ((v11.length + [(⟨x16.f_Low,x16.f_High⟩:G_Row)].length) * 16≤yazy)) then z63z_L3 g n v5 v6 v7 v8 v9 (w64 (v10 + 1)) (v11 ++ [(⟨x16.f_Low,x16.f_High⟩:G_Row)]) e0 else none) else z63z_L3 g n v5 v6 v7 v8 v9 (w64 (v10 + 1)) v11 e0))) else (g.z83z x16.f_Modes v6 (fun r18=>(bif r18 then (g.kit_Has x16.f_Time v7 (fun r19=>(bif r19 then (bif (decide ((v11.length + [(⟨x16.f_Low,x16.f_High⟩:G_Row)].length) * 16≤yazy)) then z63z_L3 g n v5 v6 v7 v8 v9 (w64 (v10 + 1)) (v11 ++ [(⟨x16.f_Low,x16.f_High⟩:G_Row)]) e0 else none) else z63z_L3 g n v5 v6 v7 v8 v9 (w64 (v10 + 1)) v11 e0))) else z63z_L3 g n v5 v6 v7 v8 v9 (w64 (v10 + 1)) v11 e0)))) else z63z_L3 g n v5 v6 v7 v8 v9 (w64 (v10 + 1)) v11 e0)) else e0 v11)
def z63z_ (g:C_z63z) (a1:List G_Segment) (a2:List UInt8) (a3 a4:Int) {R:Type} (k0:List G_Row→Option R):Option R :=
 (z63z_L3 g g.N a2 a3 a4 a1 (a1.length:Int) 0 [] (fun e20=>(g.z41z e20 (fun r21=>k0 r21))))
noncomputable def yday [Fuel]:C_z63z:=⟨NN,@z83z _,@kit_Has _,@z41z _⟩
noncomputable def z63z [Fuel]:yyjy:=@z63z_ yday
def ypry (g:yyjy):Spec A:=fun args=>match args with | [.d (.sl 110 a1),.d (.str a2),.d (.int .i64 a3),.d (.int .i64 a4)]=>fun k=>g a1 a2 a3 a4 (fun z0=>k (.arr 144 z0) [.undef,.undef,.undef,.undef]) | _=>fun _=>none
def ykPy:SSt:=mkSh 49 5 [(1,.str),(2,.int .i64),(3,.int .i64),(9,.own 144 0),(12,.sl 110),(13,.int .i64),(14,.int .i64)] [(0,.row 144)]
def yf9y (g:C_z63z) (n:Nat):LPT A:=fun ps=>match ps with | [.d (.str p1),.d (.int .i64 p2),.d (.int .i64 p3),.d (.sl 110 p4),.d (.int .i64 p5),.d (.int .i64 p6),.d (.sl 144 p7)]=>fun K=>z63z_L3 g n p1 p2 p3 p4 p5 p6 p7 (fun z0=>K (.exit 0) (mkSt 49 5 [(9,.own 144 0)] [(0,some (.row 144 z0))])) | _=>fun _=>none
noncomputable def yx2y:Code:=(Tryz.f118.body).getD .skip
noncomputable def yspy (g:C_z63z):Env A:=mkE [(153,ypSy g.z83z),(154,yhSy g.kit_Has),(155,ypFy g.z41z)] [(11,[1]),(44,[2]),(45,[3]),(48,[4])] [(3,⟨[1,2,3,9,12,13,14],[(9,144,0)],[],[],[],[],[]⟩)] [(3,⟨[9],[],[0],[],[],[],[]⟩)] [(3,yaey ykPy (yf9y g g.N))] [] [] [] [(155,0)] []
theorem yOgy [Fuel]:yagy (yspy yday).C:=ct_of (P:=Tryz.prog) (T:=T) (.cons yBJy (.cons ysBy (.cons yCBy .nil))) (by kernel_rfl)
noncomputable def ythy:Code:=sub [1,1,0,1,0,0] yx2y
theorem yFEy (g:C_z63z) (n:Nat):yahy (yspy g) g.N ythy ykPy (yf9y g) n:=by intro ps; unfold yf9y; split; exact .inr fun R K=>(by kernel_rfl); exact .inl fun R K=>rfl
theorem yDRy [Fuel]:yacy (yspy yday) NN ythy:=yaby ykPy (yf9y yday) (by kernel_rfl) yOgy (cuts0 (fun _=>rfl) (by kernel_rfl)) (fun ps R K=>by unfold yf9y; split <;> (try unfold z63z_L3) <;> rfl) (yFEy yday)
theorem yLOy (g:C_z63z):Same (ypry (@z63z_ g)) (abody (yspy g) Tryz.f118 yx2y 5 [] [.arr 144] g.N):=by intro args; unfold ypry; split; exact .inr fun R k=>(by kernel_rfl); exact .inl fun R k=>rfl
theorem yNLy [Fuel]:Ok 118 (ypry (@z63z _)):=yaay std (.cons yBJy (.cons ysBy (.cons yCBy .nil))) ⟨rfl,rfl,by kernel_rfl,rfl,rfl,rfl⟩ (yLOy yday) (cutsL (fun _=>rfl) (.cons yDRy .nil) (by kernel_rfl)) Tryz.func118 (by kernel_rfl) (by kernel_rfl)
abbrev yiny:Type 1:=G_Row→G_Row→{R:Type}→(Bool→G_Row→Option R)→Option R
def yjmy (g:Nat) (a1 a2:G_Row) {R:Type} (k0:Bool→G_Row→Option R):Option R :=
 (bif (decide (a1.f_From≤a2.f_From)) then k0 (decide (a2.f_To≤a1.f_To)) a2 else k0 false a2)
noncomputable def band_May_1 [Fuel]:yiny:=@yjmy NN
def yehy (g:yiny):Spec A:=fun args=>match args with | [.agg [.d (.int .i64 a1),.d (.int .i64 a2)],.box [.d (.int .i64 a3),.d (.int .i64 a4)]]=>fun k=>g ⟨a1,a2⟩ ⟨a3,a4⟩ (fun z0 z1=>k (.d (.bool z0)) [.undef,.box [.d (.int .i64 z1.f_From),.d (.int .i64 z1.f_To)]]) | _=>fun _=>none
noncomputable def yHZy:Code:=(Tryz.f119.body).getD .skip
noncomputable def yyGy (g:Nat):Env A:=mkE [] [(2,[1])] [] [] [] [] [] [] [] [1]
theorem ywry (g:Nat):Same (yehy (@yjmy g)) (abody (yyGy g) Tryz.f119 yHZy 2 [0] [.asis] g):=by intro args; unfold yehy; split; exact .inr fun R k=>(by kernel_rfl); exact .inl fun R k=>rfl
theorem ymty [Fuel]:Ok 119 (yehy (@band_May_1 _)):=yaay std .nil ⟨rfl,rfl,by kernel_rfl,rfl,rfl,rfl⟩ (ywry NN) (cuts0 (fun _=>rfl) (by kernel_rfl)) Tryz.func119 (by kernel_rfl) (by kernel_rfl)
abbrev yzuy:Type 1:=List G_Row→G_Row→{R:Type}→(Int→G_Row→Option R)→Option R
structure C_z32z where
 N:Nat
 band_May_1:yiny
def z32z_L2 (g:C_z32z):Nat→List G_Row→Int→Int→G_Row→{R:Type}→(Int→G_Row→Option R)→(G_Row→Option R)→Option R
 | 0,_,_,_,_,_,_,_=>none
 | n + 1,v3,v4,v5,v6,_,e0,e1=>(bif (decide (v5 < v4)) then (get_ v3 v5 fun x10=>(g.band_May_1 x10 v6 (fun r11 r12=>(bif r11 then e0 v5 r12 else z32z_L2 g n v3 v4 (w64 (v5 + 1)) r12 e0 e1)))) else e1 v6)
def z32z_ (g:C_z32z) (a1:List G_Row) (a2:G_Row) {R:Type} (k0:Int→G_Row→Option R):Option R :=
 (z32z_L2 g g.N a1 (a1.length:Int) 0 a2 (fun e13 e14=>k0 e13 e14) (fun e15=>k0 (-1) e15))
noncomputable def yidy [Fuel]:C_z32z:=⟨NN,@band_May_1 _⟩
noncomputable def z32z [Fuel]:yzuy:=@z32z_ yidy
def ypJy (g:yzuy):Spec A:=fun args=>match args with | [.d (.sl 144 a1),.fn 119 [.box [.d (.int .i64 a2),.d (.int .i64 a3)]]]=>fun k=>g a1 ⟨a2,a3⟩ (fun z0 z1=>k (.d (.int .i64 z0)) [.undef,.fn 119 [.box [.d (.int .i64 z1.f_From),.d (.int .i64 z1.f_To)]]]) | _=>fun _=>none
def ykHy:SSt:=mkSh 19 1 [(0,.sl 144),(1,.fn 119 [.ptr 0 0]),(7,.int .i64),(8,.int .i64)] [(0,.box [.int .i64,.int .i64])]
def yfoy (g:C_z32z) (n:Nat):LPT A:=fun ps=>match ps with | [.d (.sl 144 p1),.d (.int .i64 p2),.d (.int .i64 p3),.d (.int .i64 p4),.d (.int .i64 p5)]=>fun K=>z32z_L2 g n p1 p2 p3 ⟨p4,p5⟩ (fun z0 z1=>K .ret (mkSt 19 1 [(1,.fn 119 [.ptr 0 0]),(4,.d (.int .i64 z0))] [(0,some (.box [.d (.int .i64 z1.f_From),.d (.int .i64 z1.f_To)]))])) (fun z0=>K (.exit 0) (mkSt 19 1 [(1,.fn 119 [.ptr 0 0])] [(0,some (.box [.d (.int .i64 z0.f_From),.d (.int .i64 z0.f_To)]))])) | _=>fun _=>none
noncomputable def yxwy:Code:=(Tryz.f152.body).getD .skip
noncomputable def ytQy (g:C_z32z):Env A:=mkE [(119,yehy g.band_May_1)] [] [(2,⟨[0,1,7,8],[],[0],[],[],[],[]⟩)] [(2,⟨[1,4],[],[0],[],[],[],[]⟩)] [(2,yaey ykHy (yfoy g g.N))] [] [] [] [] [1]
theorem yJ8y [Fuel]:yagy (ytQy yidy).C:=ct_of (P:=Tryz.prog) (T:=T) (.cons ymty .nil) (by kernel_rfl)
noncomputable def yssy:Code:=sub [1,0,1,0,0] yxwy
theorem yFJy (g:C_z32z) (n:Nat):yahy (ytQy g) g.N yssy ykHy (yfoy g) n:=by intro ps; unfold yfoy; split; exact .inr fun R K=>(by kernel_rfl); exact .inl fun R K=>rfl
theorem yD2y [Fuel]:yacy (ytQy yidy) NN yssy:=yaby ykHy (yfoy yidy) (by kernel_rfl) yJ8y (cuts0 (fun _=>rfl) (by kernel_rfl)) (fun ps R K=>by unfold yfoy; split <;> (try unfold z32z_L2) <;> rfl) (yFJy yidy)
theorem yNWy (g:C_z32z):Same (ypJy (@z32z_ g)) (abody (ytQy g) Tryz.f152 yxwy 1 [0] [.asis] g.N):=by intro args; unfold ypJy; split; exact .inr fun R k=>(by kernel_rfl); exact .inl fun R k=>rfl
theorem yJQy [Fuel]:Ok 152 (ypJy (@z32z _)):=yaay std (.cons ymty .nil) ⟨rfl,rfl,by kernel_rfl,rfl,rfl,rfl⟩ (yNWy yidy) (cutsL (fun _=>rfl) (.cons yD2y .nil) (by kernel_rfl)) Tryz.func152 (by kernel_rfl) (by kernel_rfl)
abbrev yw2y:Type 1:=List G_Row→G_Row→{R:Type}→(Bool→G_Row→Option R)→Option R
structure C_z62z where
 N:Nat
 z32z:yzuy
def z62z_ (g:C_z62z) (a1:List G_Row) (a2:G_Row) {R:Type} (k0:Bool→G_Row→Option R):Option R :=
 (g.z32z a1 a2 (fun r3 r4=>k0 (decide (r3 ≥ 0)) r4))
noncomputable def yyTy [Fuel]:C_z62z:=⟨NN,@z32z _⟩
noncomputable def z62z [Fuel]:yw2y:=@z62z_ yyTy
def yoRy (g:yw2y):Spec A:=fun args=>match args with | [.d (.sl 144 a1),.fn 119 [.box [.d (.int .i64 a2),.d (.int .i64 a3)]]]=>fun k=>g a1 ⟨a2,a3⟩ (fun z0 z1=>k (.d (.bool z0)) [.undef,.fn 119 [.box [.d (.int .i64 z1.f_From),.d (.int .i64 z1.f_To)]]]) | _=>fun _=>none
noncomputable def yHCy:Code:=(Tryz.f117.body).getD .skip
noncomputable def yP0y (g:C_z62z):Env A:=mkE [(152,ypJy g.z32z)] [] [] [] [] [] [] [] [(152,0)] [1]
theorem yLSy (g:C_z62z):Same (yoRy (@z62z_ g)) (abody (yP0y g) Tryz.f117 yHCy 1 [0] [.asis] g.N):=by intro args; unfold yoRy; split; exact .inr fun R k=>(by kernel_rfl); exact .inl fun R k=>rfl
theorem yLly [Fuel]:Ok 117 (yoRy (@z62z _)):=yaay std (.cons yJQy .nil) ⟨rfl,rfl,by kernel_rfl,rfl,rfl,rfl⟩ (yLSy yyTy) (cuts0 (fun _=>rfl) (by kernel_rfl)) Tryz.func117 (by kernel_rfl) (by kernel_rfl)
abbrev yk7y:Type 1:=List G_Segment→List UInt8→Int→Int→Int→Int→{R:Type}→(Bool→Int→Option R)→Option R
structure C_band_May where
 N:Nat
 kit_IsMode:ycHy
 z85z:ykpy
 z78z:yfsy
 z49z:yxBy
 kit_IsKey:ycvy
 band_used:yjvy
 z62z:yw2y
 z63z:yyjy
def yojy (g:C_band_May) (a1:List G_Segment) (a2:List UInt8) (a3 a4 a5 a6:Int) {R:Type} (k0:Bool→Int→Option R):Option R :=
 (g.z49z a1 (fun r7=>(bif (r7 != 0) then k0 false r7 else (g.kit_IsKey a2 (fun r8=>(bif (!r8) then k0 false 5 else (g.z78z a3 0 30000000000 (fun r9=>(bif r9 then k0 false 1 else (g.z78z a4 1 100000 (fun r10=>(bif r10 then k0 false 1 else (g.kit_IsMode a5 (fun r11=>(bif (!r11) then k0 false 4 else (g.z85z a6 (fun r12=>(bif (!r12) then k0 false 1 else (g.band_used a3 a4 (fun r13=>(g.z63z a1 a2 a5 a6 (fun r14=>(g.z62z r14 r13 (fun r15 r16=>k0 r15 0))))))))))))))))))))))))
noncomputable def ylLy [Fuel]:C_band_May:=⟨NN,@kit_IsMode _,@z85z _,@z78z _,@z49z _,@kit_IsKey _,@band_used _,@z62z _,@z63z _⟩
noncomputable def band_May [Fuel]:yk7y:=@yojy ylLy
def ygSy (g:yk7y):Spec A:=fun args=>match args with | [.d (.sl 110 a1),.d (.str a2),.d (.int .i64 a3),.d (.int .i64 a4),.d (.int .i64 a5),.d (.int .i64 a6)]=>fun k=>g a1 a2 a3 a4 a5 a6 (fun z0 z1=>k (.tup [.d (.bool z0),.d (.int .i64 z1)]) [.undef,.undef,.undef,.undef,.undef,.undef]) | _=>fun _=>none
noncomputable def yMay:Code:=(Tryz.f73.body).getD .skip
noncomputable def yDUy (g:C_band_May):Env A:=mkE [(49,ybUy g.kit_IsMode),(85,ygly g.z85z),(86,ydsy g.z78z),(114,ypby g.z49z),(115,ybOy g.kit_IsKey),(116,ye8y g.band_used),(117,yoRy g.z62z),(118,ypry g.z63z)] [(15,[0]),(47,[1])] [] [] [] [] [] [] [] []
theorem yA4y (g:C_band_May):Same (ygSy (@yojy g)) (abody (yDUy g) Tryz.f73 yMay 2 [] [.asis,.asis] g.N):=by intro args; unfold ygSy; split; exact .inr fun R k=>(by kernel_rfl); exact .inl fun R k=>rfl
theorem yAmy [Fuel]:Ok 73 (ygSy (@band_May _)):=yaay std (.cons ycfy (.cons ykBy (.cons ydMy (.cons yKFy (.cons ybly (.cons yxdy (.cons yLly (.cons yNLy .nil)))))))) ⟨rfl,rfl,by kernel_rfl,rfl,rfl,rfl⟩ (yA4y ylLy) (cuts0 (fun _=>rfl) (by kernel_rfl)) Tryz.func73 (by kernel_rfl) (by kernel_rfl)
abbrev yify:Type 1:={R:Type}→(Bool→Option R)→Option R
structure C_law_banded where
 N:Nat
 band_May:yk7y
def yqyy (g:C_law_banded)  {R:Type} (k0:Bool→Option R):Option R :=
 (g.band_May [(⟨[99],5,8,[1],(⟨0,9⟩:G_Window)⟩:G_Segment)] [99] 6 3 1 0 (fun r1 r2=>(bif (r2 == 0) then k0 r1 else k0 false)))
noncomputable def ynay [Fuel]:C_law_banded:=⟨NN,@band_May _⟩
noncomputable def law_banded [Fuel]:yify:=@yqyy ynay
def yeny (g:yify):Spec A:=fun args=>match args with | []=>fun k=>g (fun z0=>k (.d (.bool z0)) []) | _=>fun _=>none
noncomputable def yNGy:Code:=(Tryz.f24.body).getD .skip
noncomputable def yzTy (g:C_law_banded):Env A:=mkE [(73,ygSy g.band_May)] [(4,[0]),(7,[1])] [] [] [] [] [] [] [] []
theorem ywty (g:C_law_banded):Same (yeny (@yqyy g)) (abody (yzTy g) Tryz.f24 yNGy 2 [] [.asis] g.N):=by intro args; unfold yeny; split; exact .inr fun R k=>(by kernel_rfl); exact .inl fun R k=>rfl
theorem ywCy [Fuel]:Ok 24 (yeny (@law_banded _)):=yaay std (.cons yAmy .nil) ⟨rfl,rfl,by kernel_rfl,rfl,rfl,rfl⟩ (ywty ynay) (cuts0 (fun _=>rfl) (by kernel_rfl)) Tryz.func24 (by kernel_rfl) (by kernel_rfl)
abbrev yxAy:Type 1:=List (List UInt8)→{R:Type}→(Bool→Option R)→Option R
def z57z_L4 (g:Nat):Nat→List (List UInt8)→Int→Int→{R:Type}→Option R→Option R
 | 0,_,_,_,_,_=>none
 | n + 1,v2,v3,v4,_,e0=>(bif (decide (v4 < v3)) then (get_ v2 v4 fun x6=>none) else e0)
def z57z_ (g:Nat) (a1:List (List UInt8)) {R:Type} (k0:Bool→Option R):Option R :=
 (bif ((a1.length:Int) != 0) then k0 false else (z57z_L4 g g a1 (a1.length:Int) 0 (k0 true)))
noncomputable def z57z [Fuel]:yxAy:=@z57z_ NN
def yoNy (g:yxAy):Spec A:=fun args=>match args with | [.d (.sl 9 a1),.d .nsl]=>fun k=>g a1 (fun z0=>k (.d (.bool z0)) [.undef,.undef]) | _=>fun _=>none
def ylny:SSt:=mkSh 26 0 [(0,.sl 9),(1,.nsl),(12,.int .i64),(13,.int .i64)] []
def yfOy (g:Nat) (n:Nat):LPT A:=fun ps=>match ps with | [.d (.sl 9 p1),.d (.int .i64 p2),.d (.int .i64 p3)]=>fun K=>z57z_L4 g n p1 p2 p3 (K (.exit 0) (mkSt 26 0 [] [])) | _=>fun _=>none
noncomputable def yrsy (g:Nat):Env A:=mkE [] [] [(4,⟨[0,1,12,13],[],[],[],[],[],[]⟩)] [(4,⟨[],[],[],[],[],[],[]⟩)] [(4,yaey ylny (yfOy g g))] [] [] [] [] []
theorem yLMy [Fuel]:yagy (yrsy NN).C:=ct_of (P:=Tryz.prog) (T:=T) .nil (by kernel_rfl)
noncomputable def ysRy:Code:=sub [1,1,0,1,0,0] ypoy
theorem yGcy (g:Nat) (n:Nat):yahy (yrsy g) g ysRy ylny (yfOy g) n:=by intro ps; unfold yfOy; split; exact .inr fun R K=>(by kernel_rfl); exact .inl fun R K=>rfl
theorem yD4y [Fuel]:yacy (yrsy NN) NN ysRy:=yaby ylny (yfOy NN) (by kernel_rfl) yLMy (cuts0 (fun _=>rfl) (by kernel_rfl)) (fun ps R K=>by unfold yfOy; split <;> (try unfold z57z_L4) <;> rfl) (yGcy NN)
theorem yLjy (g:Nat):Same (yoNy (@z57z_ g)) (abody (yrsy g) Tryz.f23 ypoy 0 [] [.asis] g):=by intro args; unfold yoNy; split; exact .inr fun R k=>(by kernel_rfl); exact .inl fun R k=>rfl
theorem yMKy [Fuel]:Ok 23 (yoNy (@z57z _)):=yaay std .nil ⟨rfl,rfl,by kernel_rfl,rfl,rfl,rfl⟩ (yLjy NN) (cutsL (fun _=>rfl) (.cons yD4y .nil) (by kernel_rfl)) Tryz.func23 (by kernel_rfl) (by kernel_rfl)
abbrev yzXy:Type 1:=List G_Spot→{R:Type}→(Bool→Option R)→Option R
def z64z_L4 (g:Nat):Nat→List G_Spot→Int→Int→{R:Type}→Option R→Option R
 | 0,_,_,_,_,_=>none
 | n + 1,v2,v3,v4,_,e0=>(bif (decide (v4 < v3)) then (get_ v2 v4 fun x6=>none) else e0)
def z64z_ (g:Nat) (a1:List G_Spot) {R:Type} (k0:Bool→Option R):Option R :=
 (bif ((a1.length:Int) != 0) then k0 false else (z64z_L4 g g a1 (a1.length:Int) 0 (k0 true)))
noncomputable def z64z [Fuel]:yzXy:=@z64z_ NN
def ypPy (g:yzXy):Spec A:=fun args=>match args with | [.d (.sl 52 a1),.d .nsl]=>fun k=>g a1 (fun z0=>k (.d (.bool z0)) [.undef,.undef]) | _=>fun _=>none
def ykKy:SSt:=mkSh 26 0 [(0,.sl 52),(1,.nsl),(12,.int .i64),(13,.int .i64)] []
def yeZy (g:Nat) (n:Nat):LPT A:=fun ps=>match ps with | [.d (.sl 52 p1),.d (.int .i64 p2),.d (.int .i64 p3)]=>fun K=>z64z_L4 g n p1 p2 p3 (K (.exit 0) (mkSt 26 0 [] [])) | _=>fun _=>none
noncomputable def ys7y (g:Nat):Env A:=mkE [] [] [(4,⟨[0,1,12,13],[],[],[],[],[],[]⟩)] [(4,⟨[],[],[],[],[],[],[]⟩)] [(4,yaey ykKy (yeZy g g))] [] [] [] [] []
theorem yJZy [Fuel]:yagy (ys7y NN).C:=ct_of (P:=Tryz.prog) (T:=T) .nil (by kernel_rfl)
noncomputable def ysFy:Code:=sub [1,1,0,1,0,0] yoXy
theorem yFTy (g:Nat) (n:Nat):yahy (ys7y g) g ysFy ykKy (yeZy g) n:=by intro ps; unfold yeZy; split; exact .inr fun R K=>(by kernel_rfl); exact .inl fun R K=>rfl
theorem yEpy [Fuel]:yacy (ys7y NN) NN ysFy:=yaby ykKy (yeZy NN) (by kernel_rfl) yJZy (cuts0 (fun _=>rfl) (by kernel_rfl)) (fun ps R K=>by unfold yeZy; split <;> (try unfold z64z_L4) <;> rfl) (yFTy NN)
theorem yJRy (g:Nat):Same (ypPy (@z64z_ g)) (abody (ys7y g) Tryz.f22 yoXy 0 [] [.asis] g):=by intro args; unfold ypPy; split; exact .inr fun R k=>(by kernel_rfl); exact .inl fun R k=>rfl
theorem yK6y [Fuel]:Ok 22 (ypPy (@z64z _)):=yaay std .nil ⟨rfl,rfl,by kernel_rfl,rfl,rfl,rfl⟩ (yJRy NN) (cutsL (fun _=>rfl) (.cons yEpy .nil) (by kernel_rfl)) Tryz.func22 (by kernel_rfl) (by kernel_rfl)
abbrev yiMy:Type 1:=List Int→{R:Type}→(Bool→Option R)→Option R
structure C_law_SpotsWorth where
 N:Nat
 z101z:yt7y
 z68z:ywUy
 z97z:ysIy
 z21z:yz0y
 z65z:ye5y
 z103z:yuuy
 band_Worth:yiby
 band_Sweep:yicy
 law_errs:ymey
 z47z:yxby
 z71z:yxWy
 Q_LogFault:yiQy
 z102z:yury
 z109z:yudy
 z98z:yxjy
 z1z:T_z1z
 Q_SweepOf:yjky
 z37z:yzIy
 z64z:yzXy
 z29z:yyKy
 z57z:yxAy
 law_banded:yify
def yfMy (g:C_law_SpotsWorth) (a1:List Int) {R:Type} (k0:Bool→Option R):Option R :=
 (g.z101z (⟨a1,0⟩:G_Stream) (fun r2 r3=>(g.z97z r3 0 12 (fun r4 r5=>(g.z68z r5 r4 (fun r6 r7=>(g.z97z r7 0 6 (fun r8 r9=>(g.z21z r9 r8 (fun r10 r11=>(g.z65z r11 [1,1,2,3,0] (fun r12 r13=>(g.z65z r13 [5,30,1000,0] (fun r14 r15=>(g.z65z r15 [10,30,60,100,(-1)] (fun r16 r17=>(g.z103z r17 (fun r18 r19=>(g.z65z r19 [7000000,7150000,14015000,14020000,r18] (fun r20 r21=>(g.band_Worth r2 r6 r10 r12 r14 r16 r20 (fun r22 r23=>(g.band_Sweep r2 r6 r14 r16 r20 (fun r24 r25 r26=>(g.z47z r2 (fun r27=>(g.z71z r6 (fun r28=>(g.law_errs [r27,r28] (fun r29=>(g.Q_LogFault r10 (fun r30=>(g.z102z r12 (fun r31=>(g.z109z r14 r16 (fun r32=>(g.z98z r20 (fun r33=>(g.law_errs [r29,r30,r31,r32,r33] (fun r34=>(g.z109z r14 r16 (fun r35=>(g.z98z r20 (fun r36=>(g.law_errs [r29,r35,r36] (fun r37=>(bif (r34 == 0) then (g.z1z r2 r6 r10 r12 r14 r16 r20 (fun r38=>(bif (r37 == 0) then (g.Q_SweepOf r2 r6 r14 r16 r20 (fun r39 r40=>(bif (r23 == r34) then (g.z37z r22 r38 (fun r41=>(bif r41 then (bif (r26 == r37) then (g.z29z r24 r39 (fun r42=>(bif r42 then (bif (r25 == r40) then (g.law_banded (fun r43=>k0 r43)) else k0 false) else k0 false))) else k0 false) else k0 false))) else k0 false))) else (bif (r23 == r34) then (g.z37z r22 r38 (fun r44=>(bif r44 then (bif (r26 == r37) then (g.z57z r24 (fun r45=>(bif r45 then (bif (r25 == 0) then (g.law_banded (fun r46=>k0 r46)) else k0 false) else k0 false))) else k0 false) else k0 false))) else k0 false)))) else (bif (r37 == 0) then (g.Q_SweepOf r2 r6 r14 r16 r20 (fun r47 r48=>(bif (r23 == r34) then (g.z64z r22 (fun r49=>(bif r49 then (bif (r26 == r37) then (g.z29z r24 r47 (fun r50=>(bif r50 then (bif (r25 == r48) then (g.law_banded (fun r51=>k0 r51)) else k0 false) else k0 false))) else k0 false) else k0 false))) else k0 false))) else (bif (r23 == r34) then (g.z64z r22 (fun r52=>(bif r52 then (bif (r26 == r37) then (g.z57z r24 (fun r53=>(bif r53 then (bif (r25 == 0) then (g.law_banded (fun r54=>k0 r54)) else k0 false) else k0 false))) else k0 false) else k0 false))) else k0 false)))))))))))))))))))))))))))))))))))))))))))))))))
noncomputable def yeAy [Fuel]:C_law_SpotsWorth:=⟨NN,@z101z _,@z68z _,@z97z _,@z21z _,@z65z _,@z103z _,@band_Worth _,@band_Sweep _,@law_errs _,@z47z _,@z71z _,@Q_LogFault _,@z102z _,@z109z _,@z98z _,@z1z _,@Q_SweepOf _,@z37z _,@z64z _,@z29z _,@z57z _,@law_banded _⟩
noncomputable def law_SpotsWorth [Fuel]:yiMy:=@yfMy yeAy
def SS_law_SpotsWorth (g:yiMy):Spec A:=fun args=>match args with | [.d (.sl 3 a1)]=>fun k=>g a1 (fun z0=>k (.d (.bool z0)) [.undef]) | _=>fun _=>none
noncomputable def yP2y:Code:=(Tryz.f3.body).getD .skip
noncomputable def yqSy (g:C_law_SpotsWorth):Env A:=mkE [(5,ykSy g.z101z),(6,yppy g.z68z),(7,yjZy g.z97z),(8,ypty g.z21z),(9,ydmy g.z65z),(10,ylEy g.z103z),(11,yery g.band_Worth),(12,yeey g.band_Sweep),(13,ygRy g.law_errs),(14,ypdy g.z47z),(15,yoMy g.z71z),(16,yely g.Q_LogFault),(17,ylYy g.z102z),(18,ylby g.z109z),(19,yoQy g.z98z),(20,ytHy g.z1z),(21,yeRy g.Q_SweepOf),(22,orS yFfy (ypqy g.z37z) (ypPy g.z64z)),(23,orS yE4y (yo8y g.z29z) (yoNy g.z57z)),(24,yeny g.law_banded)] [(24,[0]),(26,[1]),(30,[2]),(34,[3]),(36,[4]),(39,[5]),(42,[6]),(47,[7]),(57,[8]),(66,[9]),(74,[10]),(86,[11]),(94,[12]),(105,[13]),(114,[14])] [] [] [] [] [] [] [] []
theorem ypXy (g:C_law_SpotsWorth):Same (SS_law_SpotsWorth (@yfMy g)) (abody (yqSy g) Tryz.f3 yP2y 15 [] [.asis] g.N):=by intro args; unfold SS_law_SpotsWorth; split; exact .inr fun R k=>(by kernel_rfl); exact .inl fun R k=>rfl
theorem ok_law_SpotsWorth [Fuel]:Ok 3 (SS_law_SpotsWorth (@law_SpotsWorth _)):=yaay std (.cons yIQy (.cons yKDy (.cons yB7y (.cons yKby (.cons ydRy (.cons yJmy (.cons ywDy (.cons ywGy (.cons yAsy (.cons yNly (.cons yMRy (.cons ywFy (.cons yIwy (.cons yIry (.cons yNXy (.cons yPNy (.cons yzgy (.cons (ok_or yFfy yKey yK6y) (.cons (ok_or yE4y yLey yMKy) (.cons ywCy .nil)))))))))))))))))))) ⟨rfl,rfl,by kernel_rfl,rfl,rfl,rfl⟩ (ypXy yeAy) (cuts0 (fun _=>rfl) (by kernel_rfl)) Tryz.func3 (by kernel_rfl) (by kernel_rfl)
end Go.Am
