/- The functions of the program as Lean functions, each shown to be what the code computes, part 8. No condition: lemmas for the claim. -/
import Derived.Test.YtmhbhdhddlbdlaaGreatDoorF0
import Derived.Test.YtmhbhdhddlbdlaaGreatDoorFSh
import Derived.Test.YtmhbhdhddlbdlaaGreatDoorF1
import Derived.Test.YtmhbhdhddlbdlaaGreatDoorF4
import Derived.Test.YtmhbhdhddlbdlaaGreatDoorF5
set_option linter.unusedVariables false
set_option maxRecDepth 100000
namespace Go.Am
open Go Go.Proofs
abbrev yhgy:Type 1:=List Int→{R:Type}→(Int→Option R)→Option R
def yfny (g:Nat):Nat→List Int→Int→Int→{R:Type}→(Int→Option R)→Option R→Option R
 | 0,_,_,_,_,_,_=>none
 | n + 1,v2,v3,v4,_,e0,e1=>(bif (decide (v4 < v3)) then (get_ v2 v4 fun x6=>(bif (x6 != 0) then e0 x6 else yfny g n v2 v3 (w64 (v4 + 1)) e0 e1)) else e1)
def ysiy (g:Nat) (a1:List Int) {R:Type} (k0:Int→Option R):Option R :=
 (yfny g g a1 (a1.length:Int) 0 (fun e7=>k0 e7) (k0 0))
noncomputable def keep_errs [Fuel]:yhgy:=@ysiy NN
def ydGy (g:yhgy):Spec A:=fun args=>match args with | [.d (.sl 33 a1)]=>fun k=>g a1 (fun z0=>k (.d (.int .i64 z0)) [.undef]) | _=>fun _=>none
def yfUy:SSt:=mkSh 15 0 [(5,.sl 33),(6,.int .i64),(7,.int .i64)] []
def ycAy (g:Nat) (n:Nat):LPT A:=fun ps=>match ps with | [.d (.sl 33 p1),.d (.int .i64 p2),.d (.int .i64 p3)]=>fun K=>yfny g n p1 p2 p3 (fun z0=>K .ret (mkSt 15 0 [(2,.d (.int .i64 z0))] [])) (K (.exit 0) (mkSt 15 0 [] [])) | _=>fun _=>none
noncomputable def yAGy:Code:=(Tryz.f11.body).getD .skip
noncomputable def yg2y (g:Nat):Env A:=mkE [] [] [(2,⟨[5,6,7],[],[],[],[],[],[]⟩)] [(2,⟨[2],[],[],[],[],[],[]⟩)] [(2,yajy yfUy (ycAy g g))] [] [] [] [] []
theorem yyzy [Fuel]:yaky (yg2y NN).C:=ct_of (P:=Tryz.prog) (T:=T) .nil (by kernel_rfl)
noncomputable def yjay:Code:=sub [1,0,1,0,0] yAGy
theorem ysWy (g:Nat) (n:Nat):yaoy (yg2y g) g yjay yfUy (ycAy g) n:=by intro ps;unfold ycAy;split;exact .inr fun R K=>(by kernel_rfl);exact .inl fun R K=>rfl
theorem yr9y [Fuel]:yagy (yg2y NN) NN yjay:=yaly yfUy (ycAy NN) (by kernel_rfl) yyzy (cuts0 (fun _=>rfl) (by kernel_rfl)) (fun ps R K=>by unfold ycAy;split <;> (try unfold yfny) <;> rfl) (ysWy NN)
theorem yvly (g:Nat):Same (ydGy (@ysiy g)) (abody (yg2y g) Tryz.f11 yAGy 0 [] [.asis] g):=by intro args;unfold ydGy;split;exact .inr fun R k=>(by kernel_rfl);exact .inl fun R k=>rfl
theorem yiUy [Fuel]:Ok 11 (ydGy (@keep_errs _)):=yacy std .nil ⟨rfl,rfl,by kernel_rfl,rfl,rfl,rfl⟩ (yvly NN) (cutsL (fun _=>rfl) (.cons yr9y .nil) (by kernel_rfl)) Tryz.func11 (by kernel_rfl) (by kernel_rfl)
abbrev yvgy:Type 1:=List G_Deed→List G_Deed→{R:Type}→(Bool→Option R)→Option R
def z38z_L4 (g:Nat):Nat→List G_Deed→List G_Deed→Int→Int→{R:Type}→(Bool→Option R)→Option R→Option R
 | 0,_,_,_,_,_,_,_=>none
 | n + 1,v3,v4,v5,v6,_,e0,e1=>(bif (decide (v6 < v5)) then (get_ v3 v6 fun x9=>(get_ v4 v6 fun x10=>(bif (!(yaKy x9 x10)) then e0 false else z38z_L4 g n v3 v4 v5 (w64 (v6 + 1)) e0 e1))) else e1)
def z38z_ (g:Nat) (a1 a2:List G_Deed) {R:Type} (k0:Bool→Option R):Option R :=
 (bif ((a1.length:Int) != (a2.length:Int)) then k0 false else (z38z_L4 g g a1 a2 (a1.length:Int) 0 (fun e11=>k0 e11) (k0 true)))
noncomputable def z38z [Fuel]:yvgy:=@z38z_ NN
def yo6y (g:yvgy):Spec A:=fun args=>match args with | [.d (.sl 51 a1),.d (.sl 51 a2)]=>fun k=>g a1 a2 (fun z0=>k (.d (.bool z0)) [.undef,.undef]) | _=>fun _=>none
def ylHy:SSt:=mkSh 26 0 [(0,.sl 51),(1,.sl 51),(12,.int .i64),(13,.int .i64)] []
def yfJy (g:Nat) (n:Nat):LPT A:=fun ps=>match ps with | [.d (.sl 51 p1),.d (.sl 51 p2),.d (.int .i64 p3),.d (.int .i64 p4)]=>fun K=>z38z_L4 g n p1 p2 p3 p4 (fun z0=>K .ret (mkSt 26 0 [(4,.d (.bool z0))] [])) (K (.exit 0) (mkSt 26 0 [] [])) | _=>fun _=>none
noncomputable def yBfy:Code:=(Tryz.f19.body).getD .skip
noncomputable def ysAy (g:Nat):Env A:=mkE [] [] [(4,⟨[0,1,12,13],[],[],[],[],[],[]⟩)] [(4,⟨[4],[],[],[],[],[],[]⟩)] [(4,yajy ylHy (yfJy g g))] [] [] [] [] []
theorem yLgy [Fuel]:yaky (ysAy NN).C:=ct_of (P:=Tryz.prog) (T:=T) .nil (by kernel_rfl)
noncomputable def yrqy:Code:=sub [1,1,0,1,0,0] yBfy
theorem yFwy (g:Nat) (n:Nat):yaoy (ysAy g) g yrqy ylHy (yfJy g) n:=by intro ps;unfold yfJy;split;exact .inr fun R K=>(by kernel_rfl);exact .inl fun R K=>rfl
theorem yCIy [Fuel]:yagy (ysAy NN) NN yrqy:=yaly ylHy (yfJy NN) (by kernel_rfl) yLgy (cuts0 (fun _=>rfl) (by kernel_rfl)) (fun ps R K=>by unfold yfJy;split <;> (try unfold z38z_L4) <;> rfl) (yFwy NN)
theorem yLty (g:Nat):Same (yo6y (@z38z_ g)) (abody (ysAy g) Tryz.f19 yBfy 0 [] [.asis] g):=by intro args;unfold yo6y;split;exact .inr fun R k=>(by kernel_rfl);exact .inl fun R k=>rfl
theorem yBDy [Fuel]:Ok 19 (yo6y (@z38z _)):=yacy std .nil ⟨rfl,rfl,by kernel_rfl,rfl,rfl,rfl⟩ (yLty NN) (cutsL (fun _=>rfl) (.cons yCIy .nil) (by kernel_rfl)) Tryz.func19 (by kernel_rfl) (by kernel_rfl)
abbrev ysTy:Type 1:=List G_Deed→Int→{R:Type}→(Int→Option R)→Option R
structure C_z65z where
 N:Nat
 z10z:ykty
 z54z:ykCy
def z65z_ (g:C_z65z) (a1:List G_Deed) (a2:Int) {R:Type} (k0:Int→Option R):Option R :=
 (g.z10z a1 (fun r3=>(bif (r3 != 0) then k0 r3 else (g.z54z a2 (fun r4=>(bif (!r4) then k0 1 else k0 0))))))
noncomputable def ym2y [Fuel]:C_z65z:=⟨NN,@z10z _,@z54z _⟩
noncomputable def z65z [Fuel]:ysTy:=@z65z_ ym2y
def ykRy (g:ysTy):Spec A:=fun args=>match args with | [.d (.sl 51 a1),.d (.int .i64 a2)]=>fun k=>g a1 a2 (fun z0=>k (.d (.int .i64 z0)) [.undef,.undef]) | _=>fun _=>none
noncomputable def yKQy:Code:=(Tryz.f49.body).getD .skip
noncomputable def yN1y (g:C_z65z):Env A:=mkE [(43,ygPy g.z10z),(62,ygIy g.z54z)] [] [] [] [] [] [] [] [] []
theorem yJzy (g:C_z65z):Same (ykRy (@z65z_ g)) (abody (yN1y g) Tryz.f49 yKQy 0 [] [.asis] g.N):=by intro args;unfold ykRy;split;exact .inr fun R k=>(by kernel_rfl);exact .inl fun R k=>rfl
theorem yBvy [Fuel]:Ok 49 (ykRy (@z65z _)):=yacy std (.cons ygXy (.cons ypiy .nil)) ⟨rfl,rfl,by kernel_rfl,rfl,rfl,rfl⟩ (yJzy ym2y) (cuts0 (fun _=>rfl) (by kernel_rfl)) Tryz.func49 (by kernel_rfl) (by kernel_rfl)
abbrev yv1y:Type 1:=List G_Deed→{R:Type}→(List G_Deed→Option R)→Option R
def z80z_ (g:Nat) (a1:List G_Deed) {R:Type} (k0:List G_Deed→Option R):Option R :=
 k0 a1
noncomputable def z80z [Fuel]:yv1y:=@z80z_ NN
def yoSy (g:yv1y):Spec A:=fun args=>match args with | [.d (.sl 51 a1)]=>fun k=>g a1 (fun z0=>k (.fn 166 [.box [.d (.sl 51 z0)]]) [.undef]) | _=>fun _=>none
noncomputable def yG3y:Code:=(Tryz.f104.body).getD .skip
noncomputable def yM0y (g:Nat):Env A:=mkE [] [(1,[0])] [] [] [] [] [] [] [] []
theorem yKdy (g:Nat):Same (yoSy (@z80z_ g)) (abody (yM0y g) Tryz.f104 yG3y 1 [] [.asis] g):=by intro args;unfold yoSy;split;exact .inr fun R k=>(by kernel_rfl);exact .inl fun R k=>rfl
theorem yAoy [Fuel]:Ok 104 (yoSy (@z80z _)):=yacy std .nil ⟨rfl,rfl,by kernel_rfl,rfl,rfl,rfl⟩ (yKdy NN) (cuts0 (fun _=>rfl) (by kernel_rfl)) Tryz.func104 (by kernel_rfl) (by kernel_rfl)
abbrev yvyy:Type 1:=List Int→{R:Type}→(List Int→Option R)→Option R
def z40z_L1 (g:Nat):Nat→Int→Int→List Int→{R:Type}→(List Int→Option R)→Option R
 | 0,_,_,_,_,_=>none
 | n + 1,v2,v3,v4,_,e0=>(bif (decide (v2 < v3)) then (inr v4 v3 (at_ v4 v3 fun x9=>(inr v4 v2 (at_ v4 v2 fun x10=>(inr v4 v2 (at_ v4 v2 fun x11=>(inr (set_ v4 v2 x9) v3 (at_ (set_ v4 v2 x9) v3 fun x12=>z40z_L1 g n (w64 (v2 + 1)) (w64 (v3 - 1)) (set_ (set_ v4 v2 x9) v3 x10) e0)))))))) else e0 v4)
def z40z_ (g:Nat) (a1:List Int) {R:Type} (k0:List Int→Option R):Option R :=
 (z40z_L1 g g 0 (w64 ((a1.length:Int) - 1)) a1 (fun e13=>k0 e13))
noncomputable def z40z [Fuel]:yvyy:=@z40z_ NN
def yoZy (g:yvyy):Spec A:=fun args=>match args with | [.arr 3 a1]=>fun k=>g a1 (fun z0=>k (.tup []) [.arr 3 z0]) | _=>fun _=>none
def ylGy:SSt:=mkSh 28 1 [(0,.own 3 0),(2,.int .i64),(3,.int .i64)] [(0,.row 3)]
def yfVy (g:Nat) (n:Nat):LPT A:=fun ps=>match ps with | [.d (.int .i64 p1),.d (.int .i64 p2),.d (.sl 3 p3)]=>fun K=>z40z_L1 g n p1 p2 p3 (fun z0=>K (.exit 0) (mkSt 28 1 [(0,.own 3 0)] [(0,some (.row 3 z0))])) | _=>fun _=>none
noncomputable def yxSy:Code:=(Tryz.f105.body).getD .skip
noncomputable def yrKy (g:Nat):Env A:=mkE [] [] [(1,⟨[0,2,3],[],[0],[],[],[],[]⟩)] [(1,⟨[0],[],[0],[],[],[],[]⟩)] [(1,yajy ylGy (yfVy g g))] [] [] [] [] [0]
theorem yKxy [Fuel]:yaky (yrKy NN).C:=ct_of (P:=Tryz.prog) (T:=T) .nil (by kernel_rfl)
noncomputable def yroy:Code:=sub [1,0,0] yxSy
theorem yFay (g:Nat) (n:Nat):yaoy (yrKy g) g yroy ylGy (yfVy g) n:=by intro ps;unfold yfVy;split;exact .inr fun R K=>(by kernel_rfl);exact .inl fun R K=>rfl
theorem yCxy [Fuel]:yagy (yrKy NN) NN yroy:=yaly ylGy (yfVy NN) (by kernel_rfl) yKxy (cuts0 (fun _=>rfl) (by kernel_rfl)) (fun ps R K=>by unfold yfVy;split <;> (try unfold z40z_L1) <;> rfl) (yFay NN)
theorem yLxy (g:Nat):Same (yoZy (@z40z_ g)) (abody (yrKy g) Tryz.f105 yxSy 1 [0] [] g):=by intro args;unfold yoZy;split;exact .inr fun R k=>(by kernel_rfl);exact .inl fun R k=>rfl
theorem yABy [Fuel]:Ok 105 (yoZy (@z40z _)):=yacy std .nil ⟨rfl,rfl,by kernel_rfl,rfl,rfl,rfl⟩ (yLxy NN) (cutsL (fun _=>rfl) (.cons yCxy .nil) (by kernel_rfl)) Tryz.func105 (by kernel_rfl) (by kernel_rfl)
abbrev yq3y:Type 1:=List G_Deed→Int→{R:Type}→(List Int→Option R)→Option R
structure C_z12z where
 N:Nat
 z80z:yv1y
 z40z:yvyy
def z12z_L6 (g:C_z12z):Nat→List G_Deed→Int→List (G_net_own×Bool)→List Int→{R:Type}→(Int→List (G_net_own×Bool)→List Int→Option R)→Option R
 | 0,y0,y1,y2,y3,_,e0=>e0 y1 y2 y3
 | n + 1,l7,v4,v5,v6,_,e0=>(match l7[n]? with | none=>none | some x8=>(bif (decide (x8.f_At > v4)) then z12z_L6 g n l7 v4 v5 v6 e0 else (bif ((yaSy (⟨x8.f_Site,x8.f_No⟩:G_net_own) v5).getD false) then z12z_L6 g n l7 v4 v5 v6 e0 else (bif (decide ((v6.length + [(n:Int)].length) * 8≤yady)) then (bif (x8.f_Kind == 5) then z12z_L6 g n l7 v4 (yaQy (⟨x8.f_Of,x8.f_Other⟩:G_net_own) true v5) (v6++[(n:Int)]) e0 else z12z_L6 g n l7 v4 v5 (v6++[(n:Int)]) e0) else none))))
noncomputable def ygBy (g:C_z12z) (a1:List G_Deed) (a2:Int) {R:Type} (k0:List Int→Option R):Option R :=
 (g.z80z a1 (fun r3=>(bif decide (r3.length < 4611686018427387904) then (z12z_L6 g r3.length r3 a2 [] [] (fun e9 e10 e11=>(g.z40z e11 (fun r12=>k0 r12)))) else none)))
def yn5y (p:IV A×List (IV A)):Option ((List Int)):=match p with | (.arr 3 b1,[.undef,.undef])=>some (b1) | _=>none
def ydRy (q:(List Int)):IV A×List (IV A):=(.arr 3 q,[.undef,.undef])
theorem yFTy (p:IV A×List (IV A)) (q:(List Int)) (h:yn5y p = some q):p = ydRy q:=by unfold yn5y at h;split at h;(cases h;rfl);cases h
noncomputable def z12z_ (g:C_z12z) (a1:List G_Deed) (a2:Int) {R:Type} (k0:List Int→Option R):Option R :=
 (ygBy g a1 a2 (fun z0=>some (ydRy (z0)))).bind fun p=>(decK yn5y p (fun q=>k0 q) none)
noncomputable def ybLy [Fuel]:C_z12z:=⟨NN,@z80z _,@z40z _⟩
noncomputable def z12z [Fuel]:yq3y:=@z12z_ ybLy
def ydzy (g:yq3y):Spec A:=fun args=>match args with | [.d (.sl 51 a1),.d (.int .i64 a2)]=>fun k=>g a1 a2 (fun z0=>k (.arr 3 z0) [.undef,.undef]) | _=>fun _=>none
def yh4y:SSt:=mkSh 43 9 [(3,.ptr 0 0),(5,.ptr 2 0),(6,.ptr 3 0)] [(0,.box [.int .i64]),(1,.mp 107 4),(2,.box [.mp 1]),(3,.box [.own 3 5]),(5,.row 3)]
abbrev ycFy:Bw:=⟨166,44,51,3,4⟩
def yd8y (g:C_z12z) (n:Nat) (l:List (A (ycFy).tE)):LPT A:=fun ps=>match ps with | [.d (.int .i64 p1),.mp 107 4 p2,.d (.sl 3 p3)]=>fun K=>z12z_L6 g n l p1 p2 p3 (fun z0 z1 z2=>K .normal (mkSt 43 9 [(3,.ptr 0 0),(5,.ptr 2 0),(6,.ptr 3 0)] [(0,some (.box [.d (.int .i64 z0)])),(1,some (.mp 107 4 z1)),(2,some (.box [.mp 1])),(3,some (.box [.own 3 5])),(5,some (.row 3 z2))])) | _=>fun _=>none
noncomputable def yAPy:Code:=(Tryz.f50.body).getD .skip
noncomputable def yqTy (g:C_z12z):Env A:=mkE [(104,yoSy g.z80z),(105,yoZy g.z40z)] [(3,[0]),(5,[2]),(6,[3]),(8,[6]),(9,[1]),(11,[4]),(29,[7]),(30,[8])] [(6,⟨[3,5,6],[],[0,1,2,3],[(3,0,3,5)],[],[],[]⟩)] [(6,⟨[3,5,6],[],[0,1,2,3],[],[],[],[]⟩)] [] [] [] [] [(105,0)] []
noncomputable def yBHy (g:C_z12z):Nat→Option (Nat→yb1y A (ycFy).tE):=fun i=>List.lookup i [(0,yFMy (ycFy).tE yh4y (yd8y g))]
def ytby:Nat→List Nat:=fun i=>(List.lookup i [(0,[3,5,6])]).getD []
theorem ct_z12z [Fuel]:yaky (yqTy ybLy).C:=ct_of (P:=Tryz.prog) (T:=T) (.cons yAoy (.cons yABy .nil)) (by kernel_rfl)
noncomputable def yy6y:BwP:=(bwP Tryz.f166.body).get (by kernel_rfl)
theorem yzKy:BwFine Tryz.prog T ycFy:=⟨yL8y (fn:=Tryz.f166) Tryz.func166 yy6y (by kernel_rfl) (by kernel_rfl) (by kernel_rfl) (by kernel_rfl) (by kernel_rfl) (by kernel_rfl) (by kernel_rfl) (by kernel_rfl) (by kernel_rfl),enters_of (fn:=Tryz.f166) Tryz.func166 (by kernel_rfl) (by kernel_rfl),by kernel_rfl,by kernel_rfl,fun x=>by kernel_rfl⟩
noncomputable def yl4y:RfP:=(rfOf (sub [1,1,1,0] yAPy)).get (by kernel_rfl)
theorem yFLy (g:C_z12z):yBSy (ycFy).tE yh4y (yd8y g):=by intro xs ps;unfold yd8y;split;exact .inr fun R K=>(by kernel_rfl);exact .inl fun R K=>rfl
theorem yE4y (g:C_z12z) (i:Nat):yBNy (yqTy g) g.N (ytby (yl4y).B) yl4y (ycFy).tE yh4y (yd8y g) i:=by intro xs ps;unfold yd8y;split;exact .inr fun R K=>(by kernel_rfl);exact .inl fun R K=>rfl
theorem yCAy [Fuel]:BOk (yqTy ybLy) ycFy (yBHy ybLy) ytby NN yl4y:=yEOy yh4y (yd8y ybLy) (by kernel_rfl) (cuts0 (fun _=>rfl) (by kernel_rfl)) (cuts0 (fun _=>rfl) (by kernel_rfl)) (yFLy ybLy) (yE4y ybLy)
theorem yJxy (g:C_z12z):Same (ydzy (@ygBy g)) (ynNy (yqTy g) ycFy (yBHy g) ytby Tryz.f50 yAPy 9 [] [.arr 3] g.N):=by intro args;unfold ydzy;split;exact .inr fun R k=>(by kernel_rfl);exact .inl fun R k=>rfl
theorem yLYy (g:C_z12z):Whole (ydzy (@z12z_ g)) (ydzy (@ygBy g)):=by
 intro args R k res h
 unfold ydzy at h
 split at h
 ·obtain ⟨p,hp,h⟩:=Option.bind_eq_some_iff.1 h
  exact ⟨p,hp,(yBhy (inj:=ydRy) yFTy (fun h=>(by cases h)) h)⟩
 ·cases h
theorem yKPy (g:C_z12z):yaCy (ydzy (@z12z_ g)):=by
 intro args R k
 unfold ydzy
 split
 ·unfold z12z_
  rw [Option.bind_assoc]
  exact congrArg (Option.bind _) (funext fun p=>(yAFy (inj:=ydRy) rfl))
 ·rfl
theorem ys7y [Fuel]:Ok 50 (ydzy (@z12z _)):=yNAy std (.cons yAoy (.cons yABy .nil)) ⟨rfl,rfl,by kernel_rfl,rfl,rfl,rfl⟩ yzKy (yJxy ybLy) (yLYy ybLy) (yKPy ybLy) (cutsB (fun _=>rfl) .nil (.cons yCAy .nil) (by kernel_rfl) (by kernel_rfl)) Tryz.func50 (by kernel_rfl) (by kernel_rfl)
abbrev yvZy:Type 1:=List G_Deed→Int→{R:Type}→(List Int→Int→Option R)→Option R
structure C_z86z where
 N:Nat
 z65z:ysTy
 z12z:yq3y
def z86z_ (g:C_z86z) (a1:List G_Deed) (a2:Int) {R:Type} (k0:List Int→Int→Option R):Option R :=
 (g.z65z a1 a2 (fun r3=>(bif (r3 != 0) then k0 [] r3 else (g.z12z a1 a2 (fun r4=>k0 r4 0)))))
noncomputable def ymZy [Fuel]:C_z86z:=⟨NN,@z65z _,@z12z _⟩
noncomputable def z86z [Fuel]:yvZy:=@z86z_ ymZy
def yo1y (g:yvZy):Spec A:=fun args=>match args with | [.d (.sl 51 a1),.d (.int .i64 a2)]=>fun k=>g a1 a2 (fun z0 z1=>k (.tup [.arr 3 z0,.d (.int .i64 z1)]) [.undef,.undef]) | _=>fun _=>none
noncomputable def yIIy:Code:=(Tryz.f20.body).getD .skip
noncomputable def yNyy (g:C_z86z):Env A:=mkE [(49,ykRy g.z65z),(50,ydzy g.z12z)] [(15,[0])] [] [] [] [] [] [] [] []
theorem yIBy (g:C_z86z):Same (yo1y (@z86z_ g)) (abody (yNyy g) Tryz.f20 yIIy 1 [] [.arr 3,.asis] g.N):=by intro args;unfold yo1y;split;exact .inr fun R k=>(by kernel_rfl);exact .inl fun R k=>rfl
theorem yByy [Fuel]:Ok 20 (yo1y (@z86z _)):=yacy std (.cons yBvy (.cons ys7y .nil)) ⟨rfl,rfl,by kernel_rfl,rfl,rfl,rfl⟩ (yIBy ymZy) (cuts0 (fun _=>rfl) (by kernel_rfl)) Tryz.func20 (by kernel_rfl) (by kernel_rfl)
abbrev yyNy:Type 1:=G_Contact→G_Contact→{R:Type}→(Int→Option R)→Option R
structure C_z49z where
 N:Nat
 z23z:yi8y
 z24z:ykwy
 strings_Compare:ya8y
def z49z_ (g:C_z49z) (a1 a2:G_Contact) {R:Type} (k0:Int→Option R):Option R :=
 (g.z24z a1.f_At a2.f_At (fun r3=>(g.strings_Compare a1.f_Call a2.f_Call (fun r4=>(g.strings_Compare a1.f_Band a2.f_Band (fun r5=>(g.z24z a1.f_Mode a2.f_Mode (fun r6=>(g.z23z [r3,r4,r5,r6] (fun r7=>k0 r7))))))))))
noncomputable def yxPy [Fuel]:C_z49z:=⟨NN,@z23z _,@z24z _,@strings_Compare _⟩
noncomputable def z49z [Fuel]:yyNy:=@z49z_ yxPy
def ye9y (g:yyNy):Spec A:=fun args=>match args with | [.agg [.d (.int .i64 a1),.d (.int .i64 a2),.d (.str a3),.d (.str a4),.d (.int .i64 a5),.d (.int .i64 a6),.d (.str a7),.d (.str a8)],.agg [.d (.int .i64 a9),.d (.int .i64 a10),.d (.str a11),.d (.str a12),.d (.int .i64 a13),.d (.int .i64 a14),.d (.str a15),.d (.str a16)]]=>fun k=>g ⟨a1,a2,a3,a4,a5,a6,a7,a8⟩ ⟨a9,a10,a11,a12,a13,a14,a15,a16⟩ (fun z0=>k (.d (.int .i64 z0)) [.undef,.undef]) | _=>fun _=>none
noncomputable def yx7y:Code:=(Tryz.f132.body).getD .skip
noncomputable def yMty (g:C_z49z):Env A:=mkE [(68,yb3y g.z23z),(69,ycdy g.z24z),(70,yaDy g.strings_Compare)] [(2,[0]),(3,[1]),(25,[2])] [] [] [] [] [] [] [] []
theorem yJXy (g:C_z49z):Same (ye9y (@z49z_ g)) (abody (yMty g) Tryz.f132 yx7y 3 [] [.asis] g.N):=by intro args;unfold ye9y;split;exact .inr fun R k=>(by kernel_rfl);exact .inl fun R k=>rfl
theorem yAhy [Fuel]:Ok 132 (ye9y (@z49z _)):=yacy std (.cons yiky (.cons yofy (.cons ybly .nil))) ⟨rfl,rfl,by kernel_rfl,rfl,rfl,rfl⟩ (yJXy yxPy) (cuts0 (fun _=>rfl) (by kernel_rfl)) Tryz.func132 (by kernel_rfl) (by kernel_rfl)
noncomputable def yJjy (g:C_z49z):Env A:=mkED [(68,yb3y g.z23z),(69,ycdy g.z24z),(70,yaDy g.strings_Compare)] [(2,[0]),(3,[1]),(25,[2])] [] [] [] [] [] [] [] []
theorem yGGy (g:C_z49z):Same (ye9y (@z49z_ g)) (abody (yJjy g) Tryz.f132 yx7y 3 [] [.asis] g.N):=by intro args;unfold ye9y;split;exact .inr fun R k=>(by kernel_rfl);exact .inl fun R k=>rfl
theorem yvvy [Fuel]:OkD 132 (ye9y (@z49z _)):=yacy stdD (.cons yqjy (.cons yqcy (.cons ydBy .nil))) ⟨rfl,rfl,by kernel_rfl,rfl,rfl,rfl⟩ (yGGy yxPy) (cuts0 (fun _=>rfl) (by kernel_rfl)) Tryz.func132 (by kernel_rfl) (by kernel_rfl)
abbrev ywuy:Type 1:=List G_Contact→{R:Type}→(Int→Option R)→Option R
structure C_z53z where
 N:Nat
 z58z:yrgy
 z49z:yyNy
def z53z_L4 (g:C_z53z):Nat→List G_Contact→List G_Contact→Int→Int→{R:Type}→(Int→Option R)→Option R→Option R
 | 0,_,_,_,_,_,_,_=>none
 | n + 1,v2,v3,v4,v5,_,e0,e1=>(bif (decide (v5 < v4)) then (get_ v3 v5 fun x10=>(g.z58z x10 (fun r11=>(bif (r11 != 0) then e0 r11 else (bif (decide (v5 > 0)) then (get_ v2 (w64 (v5 - 1)) fun x12=>(g.z49z x12 x10 (fun r13=>(bif (decide (r13 ≥ 0)) then e0 7 else z53z_L4 g n v2 v3 v4 (w64 (v5 + 1)) e0 e1)))) else z53z_L4 g n v2 v3 v4 (w64 (v5 + 1)) e0 e1))))) else e1)
def z53z_ (g:C_z53z) (a1:List G_Contact) {R:Type} (k0:Int→Option R):Option R :=
 (bif (decide ((a1.length:Int) > 2000)) then k0 2 else (z53z_L4 g g.N a1 a1 (a1.length:Int) 0 (fun e14=>k0 e14) (k0 0)))
noncomputable def ykvy [Fuel]:C_z53z:=⟨NN,@z58z _,@z49z _⟩
noncomputable def z53z [Fuel]:ywuy:=@z53z_ ykvy
def yoUy (g:ywuy):Spec A:=fun args=>match args with | [.d (.sl 49 a1)]=>fun k=>g a1 (fun z0=>k (.d (.int .i64 z0)) [.undef]) | _=>fun _=>none
def ylDy:SSt:=mkSh 34 1 [(0,.sl 49),(9,.sl 49),(10,.int .i64),(11,.int .i64)] []
def yfqy (g:C_z53z) (n:Nat):LPT A:=fun ps=>match ps with | [.d (.sl 49 p1),.d (.sl 49 p2),.d (.int .i64 p3),.d (.int .i64 p4)]=>fun K=>z53z_L4 g n p1 p2 p3 p4 (fun z0=>K .ret (mkSt 34 1 [(2,.d (.int .i64 z0))] [])) (K (.exit 0) (mkSt 34 1 [] [])) | _=>fun _=>none
noncomputable def yARy:Code:=(Tryz.f77.body).getD .skip
noncomputable def yrLy (g:C_z53z):Env A:=mkE [(131,ykgy g.z58z),(132,ye9y g.z49z)] [(4,[0])] [(4,⟨[0,9,10,11],[],[],[],[],[],[]⟩)] [(4,⟨[2],[],[],[],[],[],[]⟩)] [(4,yajy ylDy (yfqy g g.N))] [] [] [] [] []
theorem yJry [Fuel]:yaky (yrLy ykvy).C:=ct_of (P:=Tryz.prog) (T:=T) (.cons ytmy (.cons yAhy .nil)) (by kernel_rfl)
noncomputable def ysby:Code:=sub [1,1,0,1,0,0] yARy
theorem yDIy (g:C_z53z) (n:Nat):yaoy (yrLy g) g.N ysby ylDy (yfqy g) n:=by intro ps;unfold yfqy;split;exact .inr fun R K=>(by kernel_rfl);exact .inl fun R K=>rfl
theorem yCgy [Fuel]:yagy (yrLy ykvy) NN ysby:=yaly ylDy (yfqy ykvy) (by kernel_rfl) yJry (cuts0 (fun _=>rfl) (by kernel_rfl)) (fun ps R K=>by unfold yfqy;split <;> (try unfold z53z_L4) <;> rfl) (yDIy ykvy)
theorem yJRy (g:C_z53z):Same (yoUy (@z53z_ g)) (abody (yrLy g) Tryz.f77 yARy 1 [] [.asis] g.N):=by intro args;unfold yoUy;split;exact .inr fun R k=>(by kernel_rfl);exact .inl fun R k=>rfl
theorem yJAy [Fuel]:Ok 77 (yoUy (@z53z _)):=yacy std (.cons ytmy (.cons yAhy .nil)) ⟨rfl,rfl,by kernel_rfl,rfl,rfl,rfl⟩ (yJRy ykvy) (cutsL (fun _=>rfl) (.cons yCgy .nil) (by kernel_rfl)) Tryz.func77 (by kernel_rfl) (by kernel_rfl)
abbrev yvWy:Type 1:=List UInt8→{R:Type}→(List UInt8→Option R)→Option R
structure C_z92z where
 N:Nat
 call_Parts:yfmy
def z92z_ (g:C_z92z) (a1:List UInt8) {R:Type} (k0:List UInt8→Option R):Option R :=
 (g.call_Parts a1 (fun r2 r3=>k0 r2.f_Base))
noncomputable def yE8y [Fuel]:C_z92z:=⟨NN,@call_Parts _⟩
noncomputable def z92z [Fuel]:yvWy:=@z92z_ yE8y
def yoty (g:yvWy):Spec A:=fun args=>match args with | [.d (.str a1)]=>fun k=>g a1 (fun z0=>k (.d (.str z0)) [.undef]) | _=>fun _=>none
noncomputable def yHmy:Code:=(Tryz.f133.body).getD .skip
noncomputable def yNWy (g:C_z92z):Env A:=mkE [(110,ydhy g.call_Parts)] [(3,[0])] [] [] [] [] [] [] [] []
theorem yKBy (g:C_z92z):Same (yoty (@z92z_ g)) (abody (yNWy g) Tryz.f133 yHmy 1 [] [.asis] g.N):=by intro args;unfold yoty;split;exact .inr fun R k=>(by kernel_rfl);exact .inl fun R k=>rfl
theorem yBoy [Fuel]:Ok 133 (yoty (@z92z _)):=yacy std (.cons ymty .nil) ⟨rfl,rfl,by kernel_rfl,rfl,rfl,rfl⟩ (yKBy yE8y) (cuts0 (fun _=>rfl) (by kernel_rfl)) Tryz.func133 (by kernel_rfl) (by kernel_rfl)
abbrev yjLy:Type 1:=List G_Contact→{R:Type}→(List Int→Option R)→Option R
structure C_log_dupes where
 N:Nat
 z92z:yvWy
def ydNy (g:C_log_dupes):Nat→List G_Contact→Int→Int→List (G_log_worked×Bool)→List Int→{R:Type}→(List Int→Option R)→Option R
 | 0,_,_,_,_,_,_,_=>none
 | n + 1,v2,v3,v4,v5,v6,_,e0=>(bif (decide (v4 < v3)) then (get_ v2 v4 fun x9=>(g.z92z x9.f_Call (fun r10=>(bif ((ycay (⟨r10,x9.f_Band,x9.f_Mode⟩:G_log_worked) v5).getD false) then (bif (decide ((v6.length + [v4].length) * 8≤yady)) then ydNy g n v2 v3 (w64 (v4 + 1)) (ybKy (⟨r10,x9.f_Band,x9.f_Mode⟩:G_log_worked) true v5) (v6++[v4]) e0 else none) else ydNy g n v2 v3 (w64 (v4 + 1)) (ybKy (⟨r10,x9.f_Band,x9.f_Mode⟩:G_log_worked) true v5) v6 e0)))) else e0 v6)
def yrny (g:C_log_dupes) (a1:List G_Contact) {R:Type} (k0:List Int→Option R):Option R :=
 (ydNy g g.N a1 (a1.length:Int) 0 [] [] (fun e11=>k0 e11))
noncomputable def ydxy [Fuel]:C_log_dupes:=⟨NN,@z92z _⟩
noncomputable def log_dupes [Fuel]:yjLy:=@yrny ydxy
def yfZy (g:yjLy):Spec A:=fun args=>match args with | [.d (.sl 49 a1)]=>fun k=>g a1 (fun z0=>k (.arr 3 z0) [.undef]) | _=>fun _=>none
def yfhy:SSt:=mkSh 35 6 [(3,.mp 0),(4,.own 3 1),(9,.sl 49),(10,.int .i64),(11,.int .i64)] [(0,.mp 195 4),(1,.row 3)]
def ycDy (g:C_log_dupes) (n:Nat):LPT A:=fun ps=>match ps with | [.d (.sl 49 p1),.d (.int .i64 p2),.d (.int .i64 p3),.mp 195 4 p4,.d (.sl 3 p5)]=>fun K=>ydNy g n p1 p2 p3 p4 p5 (fun z0=>K (.exit 0) (mkSt 35 6 [(4,.own 3 1)] [(1,some (.row 3 z0))])) | _=>fun _=>none
noncomputable def yz8y:Code:=(Tryz.f78.body).getD .skip
noncomputable def yhdy (g:C_log_dupes):Env A:=mkE [(133,yoty g.z92z)] [(6,[2]),(7,[3]),(8,[0]),(29,[4]),(30,[5])] [(4,⟨[3,4,9,10,11],[(4,3,1)],[0],[],[],[],[]⟩)] [(4,⟨[4],[],[1],[],[],[],[]⟩)] [(4,yajy yfhy (ycDy g g.N))] [] [] [] [] []
theorem yyGy [Fuel]:yaky (yhdy ydxy).C:=ct_of (P:=Tryz.prog) (T:=T) (.cons yBoy .nil) (by kernel_rfl)
noncomputable def yjwy:Code:=sub [1,1,1,0,1,0,0] yz8y
theorem ytpy (g:C_log_dupes) (n:Nat):yaoy (yhdy g) g.N yjwy yfhy (ycDy g) n:=by intro ps;unfold ycDy;split;exact .inr fun R K=>(by kernel_rfl);exact .inl fun R K=>rfl
theorem yr4y [Fuel]:yagy (yhdy ydxy) NN yjwy:=yaly yfhy (ycDy ydxy) (by kernel_rfl) yyGy (cuts0 (fun _=>rfl) (by kernel_rfl)) (fun ps R K=>by unfold ycDy;split <;> (try unfold ydNy) <;> rfl) (ytpy ydxy)
theorem yvIy (g:C_log_dupes):Same (yfZy (@yrny g)) (abody (yhdy g) Tryz.f78 yz8y 6 [] [.arr 3] g.N):=by intro args;unfold yfZy;split;exact .inr fun R k=>(by kernel_rfl);exact .inl fun R k=>rfl
theorem yvpy [Fuel]:Ok 78 (yfZy (@log_dupes _)):=yacy std (.cons yBoy .nil) ⟨rfl,rfl,by kernel_rfl,rfl,rfl,rfl⟩ (yvIy ydxy) (cutsL (fun _=>rfl) (.cons yr4y .nil) (by kernel_rfl)) Tryz.func78 (by kernel_rfl) (by kernel_rfl)
abbrev yjOy:Type 1:=List G_Contact→{R:Type}→(List Int→Int→Option R)→Option R
structure C_log_Dupes where
 N:Nat
 z53z:ywuy
 log_dupes:yjLy
def yqMy (g:C_log_Dupes) (a1:List G_Contact) {R:Type} (k0:List Int→Int→Option R):Option R :=
 (g.z53z a1 (fun r2=>(bif (r2 != 0) then k0 [] r2 else (g.log_dupes a1 (fun r3=>k0 r3 0)))))
noncomputable def ypWy [Fuel]:C_log_Dupes:=⟨NN,@z53z _,@log_dupes _⟩
noncomputable def log_Dupes [Fuel]:yjOy:=@yqMy ypWy
def yfYy (g:yjOy):Spec A:=fun args=>match args with | [.d (.sl 49 a1)]=>fun k=>g a1 (fun z0 z1=>k (.tup [.arr 3 z0,.d (.int .i64 z1)]) [.undef]) | _=>fun _=>none
noncomputable def yLwy:Code:=(Tryz.f37.body).getD .skip
noncomputable def yzqy (g:C_log_Dupes):Env A:=mkE [(77,yoUy g.z53z),(78,yfZy g.log_dupes)] [(11,[0])] [] [] [] [] [] [] [] []
theorem yyIy (g:C_log_Dupes):Same (yfYy (@yqMy g)) (abody (yzqy g) Tryz.f37 yLwy 1 [] [.arr 3,.asis] g.N):=by intro args;unfold yfYy;split;exact .inr fun R k=>(by kernel_rfl);exact .inl fun R k=>rfl
theorem yv4y [Fuel]:Ok 37 (yfYy (@log_Dupes _)):=yacy std (.cons yJAy (.cons yvpy .nil)) ⟨rfl,rfl,by kernel_rfl,rfl,rfl,rfl⟩ (yyIy ypWy) (cuts0 (fun _=>rfl) (by kernel_rfl)) Tryz.func37 (by kernel_rfl) (by kernel_rfl)
abbrev yxmy:Type 1:=List Int→{R:Type}→(Int→Option R)→Option R
structure C_z29z where
 N:Nat
 kit_IsMode:yd0y
def z29z_L4 (g:C_z29z):Nat→List Int→List Int→Int→Int→{R:Type}→(Int→Option R)→Option R→Option R
 | 0,_,_,_,_,_,_,_=>none
 | n + 1,v2,v3,v4,v5,_,e0,e1=>(bif (decide (v5 < v4)) then (get_ v3 v5 fun x9=>(g.kit_IsMode x9 (fun r10=>(bif (!r10) then e0 4 else (bif (decide (v5 > 0)) then (get_ v2 (w64 (v5 - 1)) fun x11=>(bif (decide (x9≤x11)) then e0 7 else z29z_L4 g n v2 v3 v4 (w64 (v5 + 1)) e0 e1)) else z29z_L4 g n v2 v3 v4 (w64 (v5 + 1)) e0 e1))))) else e1)
def z29z_ (g:C_z29z) (a1:List Int) {R:Type} (k0:Int→Option R):Option R :=
 (bif ((a1.length:Int) == 0) then k0 8 else (z29z_L4 g g.N a1 a1 (a1.length:Int) 0 (fun e12=>k0 e12) (k0 0)))
noncomputable def ydJy [Fuel]:C_z29z:=⟨NN,@kit_IsMode _⟩
noncomputable def z29z [Fuel]:yxmy:=@z29z_ ydJy
def yody (g:yxmy):Spec A:=fun args=>match args with | [.d (.sl 3 a1)]=>fun k=>g a1 (fun z0=>k (.d (.int .i64 z0)) [.undef]) | _=>fun _=>none
def ylvy:SSt:=mkSh 30 0 [(0,.sl 3),(8,.sl 3),(9,.int .i64),(10,.int .i64)] []
def ygmy (g:C_z29z) (n:Nat):LPT A:=fun ps=>match ps with | [.d (.sl 3 p1),.d (.sl 3 p2),.d (.int .i64 p3),.d (.int .i64 p4)]=>fun K=>z29z_L4 g n p1 p2 p3 p4 (fun z0=>K .ret (mkSt 30 0 [(2,.d (.int .i64 z0))] [])) (K (.exit 0) (mkSt 30 0 [] [])) | _=>fun _=>none
noncomputable def yv3y:Code:=(Tryz.f134.body).getD .skip
noncomputable def ysry (g:C_z29z):Env A:=mkE [(81,ycwy g.kit_IsMode)] [] [(4,⟨[0,8,9,10],[],[],[],[],[],[]⟩)] [(4,⟨[2],[],[],[],[],[],[]⟩)] [(4,yajy ylvy (ygmy g g.N))] [] [] [] [] []
theorem yLiy [Fuel]:yaky (ysry ydJy).C:=ct_of (P:=Tryz.prog) (T:=T) (.cons yeIy .nil) (by kernel_rfl)
noncomputable def ysny:Code:=sub [1,1,0,1,0,0] yv3y
theorem yEhy (g:C_z29z) (n:Nat):yaoy (ysry g) g.N ysny ylvy (ygmy g) n:=by intro ps;unfold ygmy;split;exact .inr fun R K=>(by kernel_rfl);exact .inl fun R K=>rfl
theorem yCBy [Fuel]:yagy (ysry ydJy) NN ysny:=yaly ylvy (ygmy ydJy) (by kernel_rfl) yLiy (cuts0 (fun _=>rfl) (by kernel_rfl)) (fun ps R K=>by unfold ygmy;split <;> (try unfold z29z_L4) <;> rfl) (yEhy ydJy)
theorem yJ7y (g:C_z29z):Same (yody (@z29z_ g)) (abody (ysry g) Tryz.f134 yv3y 0 [] [.asis] g.N):=by intro args;unfold yody;split;exact .inr fun R k=>(by kernel_rfl);exact .inl fun R k=>rfl
theorem yBJy [Fuel]:Ok 134 (yody (@z29z _)):=yacy std (.cons yeIy .nil) ⟨rfl,rfl,by kernel_rfl,rfl,rfl,rfl⟩ (yJ7y ydJy) (cutsL (fun _=>rfl) (.cons yCBy .nil) (by kernel_rfl)) Tryz.func134 (by kernel_rfl) (by kernel_rfl)
abbrev yiAy:Type 1:=G_Window→{R:Type}→(Bool→Option R)→Option R
def yjKy (g:Nat) (a1:G_Window) {R:Type} (k0:Bool→Option R):Option R :=
 (bif (decide (a1.f_From ≥ 0)) then (bif (decide (a1.f_From < a1.f_To)) then k0 (decide (a1.f_To≤345686400000)) else k0 false) else k0 false)
noncomputable def kit_IsTime [Fuel]:yiAy:=@yjKy NN
def yeJy (g:yiAy):Spec A:=fun args=>match args with | [.agg [.d (.int .i64 a1),.d (.int .i64 a2)]]=>fun k=>g ⟨a1,a2⟩ (fun z0=>k (.d (.bool z0)) [.undef]) | _=>fun _=>none
noncomputable def yHMy:Code:=(Tryz.f135.body).getD .skip
noncomputable def yyKy (g:Nat):Env A:=mkE [] [(1,[0])] [] [] [] [] [] [] [] []
theorem yuNy (g:Nat):Same (yeJy (@yjKy g)) (abody (yyKy g) Tryz.f135 yHMy 1 [] [.asis] g):=by intro args;unfold yeJy;split;exact .inr fun R k=>(by kernel_rfl);exact .inl fun R k=>rfl
theorem ymyy [Fuel]:Ok 135 (yeJy (@kit_IsTime _)):=yacy std .nil ⟨rfl,rfl,by kernel_rfl,rfl,rfl,rfl⟩ (yuNy NN) (cuts0 (fun _=>rfl) (by kernel_rfl)) Tryz.func135 (by kernel_rfl) (by kernel_rfl)
abbrev yysy:Type 1:=G_Segment→G_Segment→{R:Type}→(Int→Option R)→Option R
structure C_z56z where
 N:Nat
 z23z:yi8y
 z24z:ykwy
 strings_Compare:ya8y
def z56z_ (g:C_z56z) (a1 a2:G_Segment) {R:Type} (k0:Int→Option R):Option R :=
 (g.strings_Compare a1.f_Class a2.f_Class (fun r3=>(g.z24z a1.f_Low a2.f_Low (fun r4=>(g.z24z a1.f_High a2.f_High (fun r5=>(g.z24z a1.f_Time.f_From a2.f_Time.f_From (fun r6=>(g.z23z [r3,r4,r5,r6] (fun r7=>k0 r7))))))))))
noncomputable def yxDy [Fuel]:C_z56z:=⟨NN,@z23z _,@z24z _,@strings_Compare _⟩
noncomputable def z56z [Fuel]:yysy:=@z56z_ yxDy
def yoiy (g:yysy):Spec A:=fun args=>match args with | [.agg [.d (.str a1),.d (.int .i64 a2),.d (.int .i64 a3),.d (.sl 3 a4),.d (.int .i64 a5),.d (.int .i64 a6)],.agg [.d (.str a7),.d (.int .i64 a8),.d (.int .i64 a9),.d (.sl 3 a10),.d (.int .i64 a11),.d (.int .i64 a12)]]=>fun k=>g ⟨a1,a2,a3,a4,⟨a5,a6⟩⟩ ⟨a7,a8,a9,a10,⟨a11,a12⟩⟩ (fun z0=>k (.d (.int .i64 z0)) [.undef,.undef]) | _=>fun _=>none
noncomputable def yHfy:Code:=(Tryz.f136.body).getD .skip
noncomputable def yMRy (g:C_z56z):Env A:=mkE [(68,yb3y g.z23z),(69,ycdy g.z24z),(70,yaDy g.strings_Compare)] [(2,[0]),(3,[1]),(27,[2])] [] [] [] [] [] [] [] []
theorem yIfy (g:C_z56z):Same (yoiy (@z56z_ g)) (abody (yMRy g) Tryz.f136 yHfy 3 [] [.asis] g.N):=by intro args;unfold yoiy;split;exact .inr fun R k=>(by kernel_rfl);exact .inl fun R k=>rfl
theorem yAXy [Fuel]:Ok 136 (yoiy (@z56z _)):=yacy std (.cons yiky (.cons yofy (.cons ybly .nil))) ⟨rfl,rfl,by kernel_rfl,rfl,rfl,rfl⟩ (yIfy yxDy) (cuts0 (fun _=>rfl) (by kernel_rfl)) Tryz.func136 (by kernel_rfl) (by kernel_rfl)
end Go.Am
