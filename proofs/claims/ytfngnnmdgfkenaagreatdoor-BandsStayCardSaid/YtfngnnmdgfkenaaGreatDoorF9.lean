/- The functions of the program as Lean functions, each shown to be what the code computes, part 9. No condition: lemmas for the claim. -/
import Derived.Test.YtfngnnmdgfkenaaGreatDoorF0
import Derived.Test.YtfngnnmdgfkenaaGreatDoorFSh
import Derived.Test.YtfngnnmdgfkenaaGreatDoorF3
import Derived.Test.YtfngnnmdgfkenaaGreatDoorF8
set_option linter.unusedVariables false
set_option maxRecDepth 100000
namespace Go.Am
open Go Go.Proofs
abbrev yrTy:Type 1:=List Int→{R:Type}→(List Int→Option R)→Option R
def z58z_L1 (g:Nat):Nat→Int→Int→List Int→{R:Type}→(List Int→Option R)→Option R
 | 0,_,_,_,_,_=>none
 | n + 1,v2,v3,v4,_,e0=>(bif (decide (v2 < v3)) then (inr v4 v3 (at_ v4 v3 fun x9=>(inr v4 v2 (at_ v4 v2 fun x10=>(inr v4 v2 (at_ v4 v2 fun x11=>(inr (set_ v4 v2 x9) v3 (at_ (set_ v4 v2 x9) v3 fun x12=>z58z_L1 g n (w64 (v2 + 1)) (w64 (v3 - 1)) (set_ (set_ v4 v2 x9) v3 x10) e0)))))))) else e0 v4)
def z58z_ (g:Nat) (a1:List Int) {R:Type} (k0:List Int→Option R):Option R :=
 (z58z_L1 g g 0 (w64 ((a1.length:Int) - 1)) a1 (fun e13=>k0 e13))
noncomputable def z58z [Fuel]:yrTy:=@z58z_ NN
def ykky (g:yrTy):Spec A:=fun args=>match args with | [.arr 3 a1]=>fun k=>g a1 (fun z0=>k (.tup []) [.arr 3 z0]) | _=>fun _=>none
def ymmy:SSt:=mkSh 28 1 [(0,.own 3 0),(2,.int .i64),(3,.int .i64)] [(0,.row 3)]
def ye3y (g:Nat) (n:Nat):LPT A:=fun ps=>match ps with | [.d (.int .i64 p1),.d (.int .i64 p2),.d (.sl 3 p3)]=>fun K=>z58z_L1 g n p1 p2 p3 (fun z0=>K (.exit 0) (mkSt 28 1 [(0,.own 3 0)] [(0,some (.row 3 z0))])) | _=>fun _=>none
noncomputable def yCuy:Code:=(Tryz.f81.body).getD .skip
noncomputable def ytxy (g:Nat):Env A:=mkE [] [] [(1,⟨[0,2,3],[],[0],[],[],[],[]⟩)] [(1,⟨[0],[],[0],[],[],[],[]⟩)] [(1,yady ymmy (ye3y g g))] [] [] [] [] [0]
theorem yLTy [Fuel]:yahy (ytxy NN).C:=ct_of (P:=Tryz.prog) (T:=T) .nil (by kernel_rfl)
noncomputable def ysyy:Code:=sub [1,0,0] yCuy
theorem yHty (g:Nat) (n:Nat):yaiy (ytxy g) g ysyy ymmy (ye3y g) n:=by intro ps; unfold ye3y; split; exact .inr fun R K=>(by kernel_rfl); exact .inl fun R K=>rfl
theorem yFdy [Fuel]:yaby (ytxy NN) NN ysyy:=yacy ymmy (ye3y NN) (by kernel_rfl) yLTy (cuts0 (fun _=>rfl) (by kernel_rfl)) (fun ps R K=>by unfold ye3y; split <;> (try unfold z58z_L1) <;> rfl) (yHty NN)
theorem yM1y (g:Nat):Same (ykky (@z58z_ g)) (abody (ytxy g) Tryz.f81 yCuy 1 [0] [] g):=by intro args; unfold ykky; split; exact .inr fun R k=>(by kernel_rfl); exact .inl fun R k=>rfl
theorem yppy [Fuel]:Ok 81 (ykky (@z58z _)):=yaay std .nil ⟨rfl,rfl,by kernel_rfl,rfl,rfl,rfl⟩ (yM1y NN) (cutsL (fun _=>rfl) (.cons yFdy .nil) (by kernel_rfl)) Tryz.func81 (by kernel_rfl) (by kernel_rfl)
abbrev yfGy:Type 1:=List G_Band→List G_Spot→Int→Int→{R:Type}→(List G_Spot→List Int→Option R)→Option R
structure C_band_heard where
 N:Nat
 z102z:yuly
 log_At:yrdy
 z62z:yzoy
 z58z:yrTy
def yaHy (g:C_band_heard):Nat→List G_Spot→List G_Band→Int→Int→List (G_band_onBand×Bool)→List G_Spot→List Int→{R:Type}→(List G_Band→Int→Int→List (G_band_onBand×Bool)→List G_Spot→List Int→Option R)→Option R
 | 0,y0,y1,y2,y3,y4,y5,y6,_,e0=>e0 y1 y2 y3 y4 y5 y6
 | n + 1,l12,v6,v7,v8,v9,v10,v11,_,e0=>(match l12[n]? with | none=>none | some x13=>(g.log_At v6 x13.f_Hertz (fun r14=>(bif (decide (x13.f_At≤(w64 (v8 - v7)))) then yaHy g n l12 v6 v7 v8 v9 v10 v11 e0 else (bif (decide (x13.f_At > v8)) then yaHy g n l12 v6 v7 v8 v9 v10 v11 e0 else (bif (decide (r14 < 0)) then yaHy g n l12 v6 v7 v8 v9 v10 v11 e0 else (bif ((yamy (⟨x13.f_Call,r14⟩:G_band_onBand) v9).getD false) then yaHy g n l12 v6 v7 v8 v9 v10 v11 e0 else (bif (decide ((v10.length + [x13].length) * 48≤yagy)) then (bif (decide ((v11.length + [r14].length) * 8≤yagy)) then yaHy g n l12 v6 v7 v8 (yaSy (⟨x13.f_Call,r14⟩:G_band_onBand) true v9) (v10 ++ [x13]) (v11 ++ [r14]) e0 else none) else none))))))))
noncomputable def ybYy (g:C_band_heard) (a1:List G_Band) (a2:List G_Spot) (a3 a4:Int) {R:Type} (k0:List G_Spot→List Int→Option R):Option R :=
 (g.z102z a2 (fun r5=>(bif decide (r5.length < 4611686018427387904) then (yaHy g r5.length r5 a1 a3 a4 [] [] [] (fun e15 e16 e17 e18 e19 e20=>(g.z62z e19 (fun r21=>(g.z58z e20 (fun r22=>k0 r21 r22)))))) else none)))
def yfYy (p:IV A×List (IV A)):Option ((List G_Spot)×(List Int)):=match p with | (.tup [.arr 45 b1,.arr 3 b2],[.undef,.undef,.undef,.undef])=>some (b1,b2) | _=>none
def ycky (q:(List G_Spot)×(List Int)):IV A×List (IV A):=(.tup [.arr 45 q.1,.arr 3 q.2],[.undef,.undef,.undef,.undef])
theorem yt5y (p:IV A×List (IV A)) (q:(List G_Spot)×(List Int)) (h:yfYy p = some q):p = ycky q:=by unfold yfYy at h; split at h; (cases h; rfl); cases h
noncomputable def yhcy (g:C_band_heard) (a1:List G_Band) (a2:List G_Spot) (a3 a4:Int) {R:Type} (k0:List G_Spot→List Int→Option R):Option R :=
 (ybYy g a1 a2 a3 a4 (fun z0 z1=>some (ycky (z0,z1)))).bind fun p=>(decK yfYy p (fun q=>k0 q.1 q.2) none)
noncomputable def yawy [Fuel]:C_band_heard:=⟨NN,@z102z _,@log_At _,@z62z _,@z58z _⟩
noncomputable def band_heard [Fuel]:yfGy:=@yhcy yawy
def ybiy (g:yfGy):Spec A:=fun args=>match args with | [.d (.sl 62 a1),.d (.sl 45 a2),.d (.int .i64 a3),.d (.int .i64 a4)]=>fun k=>g a1 a2 a3 a4 (fun z0 z1=>k (.tup [.arr 45 z0,.arr 3 z1]) [.undef,.undef,.undef,.undef]) | _=>fun _=>none
def ycSy:SSt:=mkSh 65 16 [(4,.ptr 0 0),(6,.ptr 1 0),(7,.ptr 2 0),(8,.ptr 3 0),(9,.ptr 4 0),(10,.ptr 6 0)] [(0,.box [.sl 62]),(1,.box [.int .i64]),(2,.box [.int .i64]),(3,.box [.own 45 8]),(4,.box [.own 3 9]),(5,.mp 131 4),(6,.box [.mp 5]),(8,.row 45),(9,.row 3)]
abbrev ybby:Bw:=⟨125,30,45,3,4⟩
def ybLy (g:C_band_heard) (n:Nat) (l:List (A (ybby).tE)):LPT A:=fun ps=>match ps with | [.d (.sl 62 p1),.d (.int .i64 p2),.d (.int .i64 p3),.mp 131 4 p4,.d (.sl 45 p5),.d (.sl 3 p6)]=>fun K=>yaHy g n l p1 p2 p3 p4 p5 p6 (fun z0 z1 z2 z3 z4 z5=>K .normal (mkSt 65 16 [(4,.ptr 0 0),(6,.ptr 1 0),(7,.ptr 2 0),(8,.ptr 3 0),(9,.ptr 4 0),(10,.ptr 6 0)] [(0,some (.box [.d (.sl 62 z0)])),(1,some (.box [.d (.int .i64 z1)])),(2,some (.box [.d (.int .i64 z2)])),(3,some (.box [.own 45 8])),(4,some (.box [.own 3 9])),(5,some (.mp 131 4 z3)),(6,some (.box [.mp 5])),(8,some (.row 45 z4)),(9,some (.row 3 z5))])) | _=>fun _=>none
noncomputable def yEhy:Code:=(Tryz.f43.body).getD .skip
noncomputable def yf8y (g:C_band_heard):Env A:=mkE [(78,ymjy g.z102z),(79,yjmy g.log_At),(80,yoSy g.z62z),(81,ykky g.z58z)] [(4,[0]),(6,[1]),(7,[2]),(8,[3]),(9,[4]),(10,[6]),(12,[10]),(13,[11]),(14,[5]),(16,[7]),(52,[12]),(53,[14]),(57,[13]),(58,[15])] [(4,⟨[4,6,7,8,9,10],[],[0,1,2,3,4,5,6],[(3,0,45,8),(4,0,3,9)],[],[],[]⟩)] [(4,⟨[4,6,7,8,9,10],[],[0,1,2,3,4,5,6],[],[],[],[]⟩)] [] [] [] [] [(80,0),(81,0)] []
noncomputable def ym2y (g:C_band_heard):Nat→Option (Nat→ybIy A (ybby).tE):=fun i=>List.lookup i [(0,yzFy (ybby).tE ycSy (ybLy g))]
def yhYy:Nat→List Nat:=fun i=>(List.lookup i [(0,[4,6,7,8,9,10])]).getD []
theorem ct_band_heard [Fuel]:yahy (yf8y yawy).C:=ct_of (P:=Tryz.prog) (T:=T) (.cons yy0y (.cons yv2y (.cons yD3y (.cons yppy .nil)))) (by kernel_rfl)
noncomputable def ypUy:BwP:=(bwP Tryz.f125.body).get (by kernel_rfl)
theorem ypYy:BwFine Tryz.prog T ybby:=⟨yDiy (fn:=Tryz.f125) Tryz.func125 ypUy (by kernel_rfl) (by kernel_rfl) (by kernel_rfl) (by kernel_rfl) (by kernel_rfl) (by kernel_rfl) (by kernel_rfl) (by kernel_rfl) (by kernel_rfl),yaOy (fn:=Tryz.f125) Tryz.func125 (by kernel_rfl) (by kernel_rfl),by kernel_rfl,by kernel_rfl,fun x=>by kernel_rfl⟩
noncomputable def yeFy:RfP:=(rfOf (sub [1,1,0] yEhy)).get (by kernel_rfl)
theorem ys4y (g:C_band_heard):yvly (ybby).tE ycSy (ybLy g):=by intro xs ps; unfold ybLy; split; exact .inr fun R K=>(by kernel_rfl); exact .inl fun R K=>rfl
theorem ytyy (g:C_band_heard) (i:Nat):yuiy (yf8y g) g.N (yhYy (yeFy).B) yeFy (ybby).tE ycSy (ybLy g) i:=by intro xs ps; unfold ybLy; split; exact .inr fun R K=>(by kernel_rfl); exact .inl fun R K=>rfl
theorem yq6y [Fuel]:BOk (yf8y yawy) ybby (ym2y yawy) yhYy NN yeFy:=ywgy ycSy (ybLy yawy) (by kernel_rfl) (cuts0 (fun _=>rfl) (by kernel_rfl)) (cuts0 (fun _=>rfl) (by kernel_rfl)) (ys4y yawy) (ytyy yawy)
theorem ywUy (g:C_band_heard):Same (ybiy (@ybYy g)) (ykYy (yf8y g) ybby (ym2y g) yhYy Tryz.f43 yEhy 16 [] [.arr 45,.arr 3] g.N):=by intro args; unfold ybiy; split; exact .inr fun R k=>(by kernel_rfl); exact .inl fun R k=>rfl
theorem yw5y (g:C_band_heard):Whole (ybiy (@yhcy g)) (ybiy (@ybYy g)):=by
 intro args R k res h
 unfold ybiy at h
 split at h
 ·obtain ⟨p,hp,h⟩:=Option.bind_eq_some_iff.1 h
  exact ⟨p,hp,(yuwy (inj:=ycky) yt5y (fun h=>(by cases h)) h)⟩
 ·cases h
theorem ywOy (g:C_band_heard):yaIy (ybiy (@yhcy g)):=by
 intro args R k
 unfold ybiy
 split
 ·unfold yhcy
  rw [Option.bind_assoc]
  exact congrArg (Option.bind _) (funext fun p=>(yvry (inj:=ycky) rfl))
 ·rfl
theorem yhZy [Fuel]:Ok 43 (ybiy (@band_heard _)):=yGGy std (.cons yy0y (.cons yv2y (.cons yD3y (.cons yppy .nil)))) ⟨rfl,rfl,by kernel_rfl,rfl,rfl,rfl⟩ ypYy (ywUy yawy) (yw5y yawy) (ywOy yawy) (cutsB (fun _=>rfl) .nil (.cons yq6y .nil) (by kernel_rfl) (by kernel_rfl)) Tryz.func43 (by kernel_rfl) (by kernel_rfl)
abbrev yi8y:Type 1:=List G_Band→List G_Spot→Int→Int→{R:Type}→(List G_Spot→Int→Option R)→Option R
structure C_band_Heard where
 N:Nat
 z89z:ytSy
 z88z:ysRy
 band_heard:yfGy
def yjMy (g:C_band_Heard) (a1:List G_Band) (a2:List G_Spot) (a3 a4:Int) {R:Type} (k0:List G_Spot→Int→Option R):Option R :=
 (g.z89z a1 a2 (fun r5=>(bif (r5 != 0) then k0 [] r5 else (g.z88z a3 a4 0 (fun r6=>(bif (r6 != 0) then k0 [] r6 else (g.band_heard a1 a2 a3 a4 (fun r7 r8=>k0 r7 0))))))))
noncomputable def yiGy [Fuel]:C_band_Heard:=⟨NN,@z89z _,@z88z _,@band_heard _⟩
noncomputable def band_Heard [Fuel]:yi8y:=@yjMy yiGy
def yeBy (g:yi8y):Spec A:=fun args=>match args with | [.d (.sl 62 a1),.d (.sl 45 a2),.d (.int .i64 a3),.d (.int .i64 a4)]=>fun k=>g a1 a2 a3 a4 (fun z0 z1=>k (.tup [.arr 45 z0,.d (.int .i64 z1)]) [.undef,.undef,.undef,.undef]) | _=>fun _=>none
noncomputable def yMGy:Code:=(Tryz.f12.body).getD .skip
noncomputable def yxky (g:C_band_Heard):Env A:=mkE [(41,ykyy g.z89z),(42,ykay g.z88z),(43,ybiy g.band_heard)] [(31,[0,1])] [] [] [] [] [] [] [] []
theorem ywzy (g:C_band_Heard):Same (yeBy (@yjMy g)) (abody (yxky g) Tryz.f12 yMGy 2 [] [.arr 45,.asis] g.N):=by intro args; unfold yeBy; split; exact .inr fun R k=>(by kernel_rfl); exact .inl fun R k=>rfl
theorem ywKy [Fuel]:Ok 12 (yeBy (@band_Heard _)):=yaay std (.cons yuJy (.cons yt9y (.cons yhZy .nil))) ⟨rfl,rfl,by kernel_rfl,rfl,rfl,rfl⟩ (ywzy yiGy) (cuts0 (fun _=>rfl) (by kernel_rfl)) Tryz.func12 (by kernel_rfl) (by kernel_rfl)
abbrev yu2y:Type 1:=List G_Spot→{R:Type}→(List G_Spot→Option R)→Option R
def z104z [Fuel]:yu2y:=@ygTy G_Spot 48
def yiLy (g:yu2y):Spec A:=fun args=>match args with | [.d (.sl 45 x1)]=>fun k=>g x1 (fun z=>k (.arr 45 z) [.undef]) | _=>fun _=>none
theorem yz1y [Fuel] (xs:List (A 45)) (R:Type) (k:IV A→List (IV A)→Option R):yiLy (@z104z _) [.d (.sl 45 xs)] k = ygTy 48 xs (fun z=>k (.arr 45 z) [.undef]):=by kernel_rfl
theorem yxOy [Fuel] (args:List (IV A)) (R:Type) (k:IV A→List (IV A)→Option R) (h:∀ xs:List (A 45),args ≠ [.d (.sl 45 xs)]):yiLy (@z104z _) args k = none:=by unfold yiLy; split; exact absurd rfl (h _); rfl
theorem yywy [Fuel]:Ok 84 (yiLy (@z104z _)):=⟨yKyy (yBNy rfl (tyOk Tryz.prog) (e:=45) (size:=4) (bytes:=48) (ty:=45) (by kernel_rfl) (fun n c w=>AnyE.slices_Clone_nil Tryz.clone84 n c w) (fun b off n c news w h1 h2 h3 h4 h5=>AnyE.slices_Clone Tryz.clone84 Tryz.ti45 Tryz.zv45 4 48 (by kernel_rfl) (by kernel_rfl) (by kernel_rfl) (by kernel_rfl) (by kernel_rfl) (by decide) Tryz.sizeOf45 b off n c news w h1 h2 h3 h4 h5)) yz1y yxOy,yKny yz1y yxOy,yaOy (fn:=Tryz.f84) Tryz.func84 (by kernel_rfl) (by kernel_rfl)⟩
abbrev yAry:Type 1:=G_Spot→Int→Bool→{R:Type}→(Bool→Bool→Option R)→Option R
def z91z_ (g:Nat) (a1:G_Spot) (a2:Int) (a3:Bool) {R:Type} (k0:Bool→Bool→Option R):Option R :=
 (bif (a1.f_Hertz == a2) then k0 true a3 else k0 ((decide (a1.f_Hertz < a2)) == a3) a3)
noncomputable def z91z [Fuel]:yAry:=@z91z_ NN
def ypiy (g:yAry):Spec A:=fun args=>match args with | [.agg [.d (.int .i64 a1),.d (.int .i64 a2),.d (.str a3),.d (.str a4)],.cel [.int .i64 a5] 0,.box [.d (.bool a6)]]=>fun k=>g ⟨a1,a2,a3,a4⟩ a5 a6 (fun z0 z1=>k (.d (.bool z0)) [.undef,.undef,.box [.d (.bool z1)]]) | _=>fun _=>none
noncomputable def yD5y:Code:=(Tryz.f82.body).getD .skip
noncomputable def yRmy (g:Nat):Env A:=mkE [] [(3,[1])] [] [] [] [] [] [] [] [2]
theorem yOmy (g:Nat):Same (ypiy (@z91z_ g)) (abody (yRmy g) Tryz.f82 yD5y 2 [0] [.asis] g):=by intro args; unfold ypiy; split; exact .inr fun R k=>(by kernel_rfl); exact .inl fun R k=>rfl
theorem yOay [Fuel]:Ok 82 (ypiy (@z91z _)):=yaay std .nil ⟨rfl,rfl,by kernel_rfl,rfl,rfl,rfl⟩ (yOmy NN) (cuts0 (fun _=>rfl) (by kernel_rfl)) Tryz.func82 (by kernel_rfl) (by kernel_rfl)
abbrev yoFy:Type 1:=G_Spot→Int→{R:Type}→(Int→Option R)→Option R
def z114z_ (g:Nat) (a1:G_Spot) (a2:Int) {R:Type} (k0:Int→Option R):Option R :=
 k0 (if (w64 (a2 - a1.f_Hertz)) > (w64 (a1.f_Hertz - a2)) then (w64 (a2 - a1.f_Hertz)) else (w64 (a1.f_Hertz - a2)))
noncomputable def z114z [Fuel]:yoFy:=@z114z_ NN
def yiOy (g:yoFy):Spec A:=fun args=>match args with | [.agg [.d (.int .i64 a1),.d (.int .i64 a2),.d (.str a3),.d (.str a4)],.cel [.int .i64 a5] 0]=>fun k=>g ⟨a1,a2,a3,a4⟩ a5 (fun z0=>k (.d (.int .i64 z0)) [.undef,.undef]) | _=>fun _=>none
noncomputable def yMmy:Code:=(Tryz.f83.body).getD .skip
noncomputable def yOgy (g:Nat):Env A:=mkE [] [(2,[0])] [] [] [] [] [] [] [] []
theorem yJ4y (g:Nat):Same (yiOy (@z114z_ g)) (abody (yOgy g) Tryz.f83 yMmy 1 [] [.asis] g):=by intro args; unfold yiOy; split; exact .inr fun R k=>(by kernel_rfl); exact .inl fun R k=>rfl
theorem yzyy [Fuel]:Ok 83 (yiOy (@z114z _)):=yaay std .nil ⟨rfl,rfl,by kernel_rfl,rfl,rfl,rfl⟩ (yJ4y NN) (cuts0 (fun _=>rfl) (by kernel_rfl)) Tryz.func83 (by kernel_rfl) (by kernel_rfl)
abbrev yzwy:Type 1:=G_Spot→G_Spot→Int→Bool→Int→{R:Type}→(Int→Int→Bool→Int→Option R)→Option R
structure C_z51z where
 N:Nat
 z91z:yAry
 z114z:yoFy
def z51z_ (g:C_z51z) (a1 a2:G_Spot) (a3:Int) (a4:Bool) (a5:Int) {R:Type} (k0:Int→Int→Bool→Int→Option R):Option R :=
 (g.z91z a1 a3 a4 (fun r6 r7=>(g.z91z a2 a3 r7 (fun r8 r9=>(bif (!(r6 == r8)) then (bif r6 then k0 (-1) a3 r9 a5 else k0 1 a3 r9 a5) else (g.z114z a1 a5 (fun r10=>(g.z114z a2 a5 (fun r11=>k0 (w64 (r10 - r11)) a3 r9 a5)))))))))
noncomputable def yHKy [Fuel]:C_z51z:=⟨NN,@z91z _,@z114z _⟩
noncomputable def z51z [Fuel]:yzwy:=@z51z_ yHKy
def ypny (g:yzwy):Spec A:=fun args=>match args with | [.agg [.d (.int .i64 a1),.d (.int .i64 a2),.d (.str a3),.d (.str a4)],.agg [.d (.int .i64 a5),.d (.int .i64 a6),.d (.str a7),.d (.str a8)],.box [.fn 82 [.cel [.int .i64 a9] 0,.box [.d (.bool a10)]]],.box [.fn 83 [.cel [.int .i64 a11] 0]]]=>fun k=>g ⟨a1,a2,a3,a4⟩ ⟨a5,a6,a7,a8⟩ a9 a10 a11 (fun z0 z1 z2 z3=>k (.d (.int .i64 z0)) [.undef,.undef,.box [.fn 82 [.cel [.int .i64 z1] 0,.box [.d (.bool z2)]]],.box [.fn 83 [.cel [.int .i64 z3] 0]]]) | _=>fun _=>none
noncomputable def yCSy:Code:=(Tryz.f85.body).getD .skip
noncomputable def yQUy (g:C_z51z):Env A:=mkE [(82,ypiy g.z91z),(83,yiOy g.z114z)] [(4,[3]),(5,[4])] [] [] [] [] [] [] [] [2,3]
theorem yOty (g:C_z51z):Same (ypny (@z51z_ g)) (abody (yQUy g) Tryz.f85 yCSy 5 [0,1,2] [.asis] g.N):=by intro args; unfold ypny; split; exact .inr fun R k=>(by kernel_rfl); exact .inl fun R k=>rfl
theorem yEny [Fuel]:Ok 85 (ypny (@z51z _)):=yaay std (.cons yOay (.cons yzyy .nil)) ⟨rfl,rfl,by kernel_rfl,rfl,rfl,rfl⟩ (yOty yHKy) (cuts0 (fun _=>rfl) (by kernel_rfl)) Tryz.func85 (by kernel_rfl) (by kernel_rfl)
abbrev T_z4z:Type 1:=List G_Spot→Int→Int→Int→Bool→Int→{R:Type}→(List G_Spot→Int→Bool→Int→Option R)→Option R
structure C_z4z where
 N:Nat
 z51z:yzwy
def z4z_L4 (g:C_z4z):Nat→Int→Int→Int→Int→List G_Spot→Int→Bool→Int→{R:Type}→(Int→Int→Int→List G_Spot→Int→Int→Bool→Option R)→(Int→Int→Int→List G_Spot→Int→Bool→Int→Option R)→Option R
 | 0,_,_,_,_,_,_,_,_,_,_,_=>none
 | n + 1,v56,v57,v58,v59,v60,v61,v62,v63,_,e0,e1=>(bif (decide (v59 > v56)) then (inr v60 v59 (at_ v60 v59 fun x74=>(inr v60 (w64 (v59 - 1)) (at_ v60 (w64 (v59 - 1)) fun x75=>(g.z51z x74 x75 v61 v62 v63 (fun r76 r77 r78 r79=>(bif (decide (r76 < 0)) then (inr v60 (w64 (v59 - 1)) (at_ v60 (w64 (v59 - 1)) fun x80=>(inr v60 v59 (at_ v60 v59 fun x81=>(inr v60 v59 (at_ v60 v59 fun x82=>(inr (set_ v60 v59 x80) (w64 (v59 - 1)) (at_ (set_ v60 v59 x80) (w64 (v59 - 1)) fun x83=>none)))))))) else e0 v56 v57 v58 v60 r77 r79 r78))))))) else e1 v56 v57 v58 v60 v61 v62 v63)
def z4z_L1 (g:C_z4z):Nat→Int→Int→Int→List G_Spot→Int→Bool→Int→{R:Type}→(List G_Spot→Int→Bool→Int→Option R)→Option R
 | 0,_,_,_,_,_,_,_,_,_=>none
 | n + 1,v7,v8,v9,v10,v11,v12,v13,_,e0=>(bif (decide (v9 < v8)) then (z4z_L4 g g.N v7 v8 v9 v9 v10 v11 v12 v13 (fun e84 e85 e86 e87 e88 e89 e90=>none) (fun e91 e92 e93 e94 e95 e96 e97=>z4z_L1 g n e91 e92 (w64 (e93 + 1)) e94 e95 e96 e97 e0)) else e0 v10 v11 v12 v13)
def z4z_ (g:C_z4z) (a1:List G_Spot) (a2 a3 a4:Int) (a5:Bool) (a6:Int) {R:Type} (k0:List G_Spot→Int→Bool→Int→Option R):Option R :=
 (z4z_L1 g g.N a2 a3 (w64 (a2 + 1)) a1 a4 a5 a6 (fun e98 e99 e100 e101=>k0 e98 e99 e100 e101))
noncomputable def I_z4z [Fuel]:C_z4z:=⟨NN,@z51z _⟩
noncomputable def z4z [Fuel]:T_z4z:=@z4z_ I_z4z
def ytcy (g:T_z4z):Spec A:=fun args=>match args with | [.arr 45 a1,.d (.int .i64 a2),.d (.int .i64 a3),.fn 85 [.box [.fn 82 [.cel [.int .i64 a4] 0,.box [.d (.bool a5)]]],.box [.fn 83 [.cel [.int .i64 a6] 0]]]]=>fun k=>g a1 a2 a3 a4 a5 a6 (fun z0 z1 z2 z3=>k (.tup []) [.arr 45 z0,.undef,.undef,.fn 85 [.box [.fn 82 [.cel [.int .i64 z1] 0,.box [.d (.bool z2)]]],.box [.fn 83 [.cel [.int .i64 z3] 0]]]]) | _=>fun _=>none
def ynAy:SSt:=mkSh 53 5 [(0,.own 45 0),(1,.int .i64),(2,.int .i64),(3,.fn 85 [.ptr 1 0,.ptr 3 0]),(8,.int .i64),(9,.int .i64)] [(0,.row 45),(1,.box [.fn 82 [.cel [.int .i64] 0,.ptr 2 0]]),(2,.box [.bool]),(3,.box [.fn 83 [.cel [.int .i64] 0]])]
def yhvy (g:C_z4z) (n:Nat):LPT A:=fun ps=>match ps with | [.d (.int .i64 p1),.d (.int .i64 p2),.d (.int .i64 p3),.d (.int .i64 p4),.d (.sl 45 p5),.d (.int .i64 p6),.d (.bool p7),.d (.int .i64 p8)]=>fun K=>z4z_L4 g n p1 p2 p3 p4 p5 p6 p7 p8 (fun z0 z1 z2 z3 z4 z5 z6=>K (.exit 2) (mkSt 53 5 [(0,.own 45 0),(1,.d (.int .i64 z0)),(2,.d (.int .i64 z1)),(3,.fn 85 [.ptr 1 0,.ptr 3 0]),(8,.d (.int .i64 z2))] [(0,some (.row 45 z3)),(1,some (.box [.fn 82 [.cel [.int .i64 z4] 0,.ptr 4 0]])),(2,some (.gone (1,0))),(3,some (.box [.fn 83 [.cel [.int .i64 z5] 0]])),(4,some (.box [.d (.bool z6)]))])) (fun z0 z1 z2 z3 z4 z5 z6=>K (.exit 2) (mkSt 53 5 [(0,.own 45 0),(1,.d (.int .i64 z0)),(2,.d (.int .i64 z1)),(3,.fn 85 [.ptr 1 0,.ptr 3 0]),(8,.d (.int .i64 z2))] [(0,some (.row 45 z3)),(1,some (.box [.fn 82 [.cel [.int .i64 z4] 0,.ptr 2 0]])),(2,some (.box [.d (.bool z5)])),(3,some (.box [.fn 83 [.cel [.int .i64 z6] 0]]))])) | _=>fun _=>none
def yn0y:SSt:=mkSh 53 5 [(0,.own 45 0),(1,.int .i64),(2,.int .i64),(3,.fn 85 [.ptr 1 0,.ptr 3 0]),(8,.int .i64)] [(0,.row 45),(1,.box [.fn 82 [.cel [.int .i64] 0,.ptr 2 0]]),(2,.box [.bool]),(3,.box [.fn 83 [.cel [.int .i64] 0]])]
def yhsy (g:C_z4z) (n:Nat):LPT A:=fun ps=>match ps with | [.d (.int .i64 p1),.d (.int .i64 p2),.d (.int .i64 p3),.d (.sl 45 p4),.d (.int .i64 p5),.d (.bool p6),.d (.int .i64 p7)]=>fun K=>z4z_L1 g n p1 p2 p3 p4 p5 p6 p7 (fun z0 z1 z2 z3=>K (.exit 0) (mkSt 53 5 [(0,.own 45 0),(3,.fn 85 [.ptr 1 0,.ptr 3 0])] [(0,some (.row 45 z0)),(1,some (.box [.fn 82 [.cel [.int .i64 z1] 0,.ptr 2 0]])),(2,some (.box [.d (.bool z2)])),(3,some (.box [.fn 83 [.cel [.int .i64 z3] 0]]))])) | _=>fun _=>none
noncomputable def E_z4z (g:C_z4z):Env A:=mkE [(85,ypny g.z51z)] [(32,[4])] [(4,⟨[0,1,2,3,8,9],[],[0,1,2,3],[],[],[],[]⟩),(1,⟨[0,1,2,3,8],[],[0,1,2,3],[],[],[],[]⟩)] [(4,⟨[0,1,2,3,8],[],[0,1,2,3,4],[],[],[],[]⟩),(1,⟨[0,3],[],[0,1,2,3],[],[],[],[]⟩)] [(4,yady ynAy (yhvy g g.N)),(1,yady yn0y (yhsy g g.N))] [] [] [] [] [0,3]
theorem yHJy [Fuel]:yahy (E_z4z I_z4z).C:=ct_of (P:=Tryz.prog) (T:=T) (.cons yEny .nil) (by kernel_rfl)
noncomputable def ywly:Code:=sub [1,0,0,1,0,0,1,0,0] ycWy
theorem yKwy (g:C_z4z) (n:Nat):yaiy (E_z4z g) g.N ywly ynAy (yhvy g) n:=by intro ps; unfold yhvy; split; exact .inr fun R K=>(by kernel_rfl); exact .inl fun R K=>rfl
theorem ywry [Fuel]:yaby (E_z4z I_z4z) NN ywly:=yacy ynAy (yhvy I_z4z) (by kernel_rfl) yHJy (cuts0 (fun _=>rfl) (by kernel_rfl)) (fun ps R K=>by unfold yhvy; split <;> (try unfold z4z_L4) <;> rfl) (yKwy I_z4z)
noncomputable def ywwy:Code:=sub [1,0,0] ycWy
theorem yIUy (g:C_z4z) (n:Nat):yaiy (E_z4z g) g.N ywwy yn0y (yhsy g) n:=by intro ps; unfold yhsy; split; exact .inr fun R K=>(by kernel_rfl); exact .inl fun R K=>rfl
theorem yGJy [Fuel]:yaby (E_z4z I_z4z) NN ywwy:=yacy yn0y (yhsy I_z4z) (by kernel_rfl) yHJy (cutsL (fun _=>rfl) (.cons ywry .nil) (by kernel_rfl)) (fun ps R K=>by unfold yhsy; split <;> (try unfold z4z_L1) <;> rfl) (yIUy I_z4z)
theorem yROy (g:C_z4z):Same (ytcy (@z4z_ g)) (abody (E_z4z g) Tryz.f112 ycWy 5 [0,1,2,3] [] g.N):=by intro args; unfold ytcy; split; exact .inr fun R k=>(by kernel_rfl); exact .inl fun R k=>rfl
theorem yIty [Fuel]:Ok 112 (ytcy (@z4z _)):=yaay std (.cons yEny .nil) ⟨rfl,rfl,by kernel_rfl,rfl,rfl,rfl⟩ (yROy I_z4z) (cutsL (fun _=>rfl) (.cons ywry (.cons yGJy .nil)) (by kernel_rfl)) Tryz.func112 (by kernel_rfl) (by kernel_rfl)
end Go.Am
