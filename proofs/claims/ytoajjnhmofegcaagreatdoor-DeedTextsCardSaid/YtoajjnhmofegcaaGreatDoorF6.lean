/- The functions of the program as Lean functions, each shown to be what the code computes, part 6. No condition: lemmas for the claim. -/
import Derived.Test.YtoajjnhmofegcaaGreatDoorF0
import Derived.Test.YtoajjnhmofegcaaGreatDoorFSh
import Derived.Test.YtoajjnhmofegcaaGreatDoorF1
import Derived.Test.YtoajjnhmofegcaaGreatDoorF3
import Derived.Test.YtoajjnhmofegcaaGreatDoorF4
import Derived.Test.YtoajjnhmofegcaaGreatDoorF5
set_option linter.unusedVariables false
set_option maxRecDepth 100000
namespace Go.Am
open Go Go.Proofs
abbrev yqwy:Type 1:=Int→Int→{R:Type}→(Int→Option R)→Option R
structure C_z34z where
 N:Nat
 z68z:yvOy
def z34z_ (g:C_z34z) (a1 a2:Int) {R:Type} (k0:Int→Option R):Option R :=
 (g.z68z a1 (fun r3=>(g.z68z a2 (fun r4=>(bif r3 then (bif r4 then k0 0 else k0 (-1)) else (bif r4 then k0 1 else (bif (decide (a1 < a2)) then k0 (-1) else (bif (decide (a1 > a2)) then k0 1 else k0 0))))))))
noncomputable def yp1y [Fuel]:C_z34z:=⟨NN,@z68z _⟩
noncomputable def z34z [Fuel]:yqwy:=@z34z_ yp1y
def yd5y (g:yqwy):Spec A:=fun args=>match args with | [.d (.int .i64 a1),.d (.int .i64 a2)]=>fun k=>g a1 a2 (fun z0=>k (.d (.int .i64 z0)) [.undef,.undef]) | _=>fun _=>none
noncomputable def yuHy:Code:=(Tryz.f169.body).getD .skip
noncomputable def yIty (g:C_z34z):Env A:=mkE [(213,yeZy g.z68z)] [] [] [] [] [] [] [] [] []
theorem yEHy (g:C_z34z):Same (yd5y (@z34z_ g)) (abody (yIty g) Tryz.f169 yuHy 0 [] [.asis] g.N):=by intro args;unfold yd5y;split;exact .inr fun R k=>(by kernel_rfl);exact .inl fun R k=>rfl
theorem yyLy [Fuel]:Ok 169 (yd5y (@z34z _)):=yacy std (.cons yE7y .nil) ⟨rfl,rfl,by kernel_rfl,rfl,rfl,rfl⟩ (yEHy yp1y) (cuts0 (fun _=>rfl) (by kernel_rfl)) Tryz.func169 (by kernel_rfl) (by kernel_rfl)
noncomputable def yFby (g:C_z34z):Env A:=mkED [(213,yeZy g.z68z)] [] [] [] [] [] [] [] [] []
theorem yDly (g:C_z34z):Same (yd5y (@z34z_ g)) (abody (yFby g) Tryz.f169 yuHy 0 [] [.asis] g.N):=by intro args;unfold yd5y;split;exact .inr fun R k=>(by kernel_rfl);exact .inl fun R k=>rfl
theorem yEky [Fuel]:OkD 169 (yd5y (@z34z _)):=yacy stdD (.cons yEBy .nil) ⟨rfl,rfl,by kernel_rfl,rfl,rfl,rfl⟩ (yDly yp1y) (cuts0 (fun _=>rfl) (by kernel_rfl)) Tryz.func169 (by kernel_rfl) (by kernel_rfl)
abbrev yqJy:Type 1:=List Int→{R:Type}→(Int→Option R)→Option R
def z32z_L3 (g:Nat):Nat→Int→List Int→Int→Int→{R:Type}→(Int→Int→Option R)→(Int→Option R)→Option R
 | 0,_,_,_,_,_,_,_=>none
 | n + 1,v2,v3,v4,v5,_,e0,e1=>(bif (decide (v5 < v4)) then (get_ v3 v5 fun x7=>(bif (x7 != v2) then e0 x7 v2 else z32z_L3 g n v2 v3 v4 (w64 (v5 + 1)) e0 e1)) else e1 v2)
def z32z_ (g:Nat) (a1:List Int) {R:Type} (k0:Int→Option R):Option R :=
 (z32z_L3 g g 0 a1 (a1.length:Int) 0 (fun e8 e9=>k0 e8) (fun e10=>k0 e10))
noncomputable def z32z [Fuel]:yqJy:=@z32z_ NN
def yecy (g:yqJy):Spec A:=fun args=>match args with | [.d (.sl 3 a1)]=>fun k=>g a1 (fun z0=>k (.d (.int .i64 z0)) [.undef]) | _=>fun _=>none
def ydYy:SSt:=mkSh 18 0 [(3,.int .i64),(6,.sl 3),(7,.int .i64),(8,.int .i64)] []
def ybXy (g:Nat) (n:Nat):LPT A:=fun ps=>match ps with | [.d (.int .i64 p1),.d (.sl 3 p2),.d (.int .i64 p3),.d (.int .i64 p4)]=>fun K=>z32z_L3 g n p1 p2 p3 p4 (fun z0 z1=>K .ret (mkSt 18 0 [(2,.d (.int .i64 z0)),(3,.d (.int .i64 z1))] [])) (fun z0=>K (.exit 0) (mkSt 18 0 [(3,.d (.int .i64 z0))] [])) | _=>fun _=>none
noncomputable def yo4y:Code:=(Tryz.f168.body).getD .skip
noncomputable def ypCy (g:Nat):Env A:=mkE [] [] [(3,⟨[3,6,7,8],[],[],[],[],[],[]⟩)] [(3,⟨[2,3],[],[],[],[],[],[]⟩)] [(3,yajy ydYy (ybXy g g))] [] [] [] [] []
theorem yGny [Fuel]:yahy (ypCy NN).C:=ct_of (P:=Tryz.prog) (T:=T) .nil (by kernel_rfl)
noncomputable def yhzy:Code:=sub [1,1,0,1,0,0] yo4y
theorem yAGy (g:Nat) (n:Nat):yaCy (ypCy g) g yhzy ydYy (ybXy g) n:=by intro ps;unfold ybXy;split;exact .inr fun R K=>(by kernel_rfl);exact .inl fun R K=>rfl
theorem yzSy [Fuel]:yaiy (ypCy NN) NN yhzy:=yamy ydYy (ybXy NN) (by kernel_rfl) yGny (cuts0 (fun _=>rfl) (by kernel_rfl)) (fun ps R K=>by unfold ybXy;split <;> (try unfold z32z_L3) <;> rfl) (yAGy NN)
theorem yGJy (g:Nat):Same (yecy (@z32z_ g)) (abody (ypCy g) Tryz.f168 yo4y 0 [] [.asis] g):=by intro args;unfold yecy;split;exact .inr fun R k=>(by kernel_rfl);exact .inl fun R k=>rfl
theorem yyDy [Fuel]:Ok 168 (yecy (@z32z _)):=yacy std .nil ⟨rfl,rfl,by kernel_rfl,rfl,rfl,rfl⟩ (yGJy NN) (cutsL (fun _=>rfl) (.cons yzSy .nil) (by kernel_rfl)) Tryz.func168 (by kernel_rfl) (by kernel_rfl)
noncomputable def ynwy (g:Nat):Env A:=mkED [] [] [(3,⟨[3,6,7,8],[],[],[],[],[],[]⟩)] [(3,⟨[2,3],[],[],[],[],[],[]⟩)] [(3,yajy ydYy (ybXy g g))] [] [] [] [] []
theorem yCSy [Fuel]:yahy (ynwy NN).C:=ct_of (P:=Tryz.prog) (T:=TD) .nil (by kernel_rfl)
theorem yziy (g:Nat) (n:Nat):yaCy (ynwy g) g yhzy ydYy (ybXy g) n:=by intro ps;unfold ybXy;split;exact .inr fun R K=>(by kernel_rfl);exact .inl fun R K=>rfl
theorem ywGy [Fuel]:yaiy (ynwy NN) NN yhzy:=yamy ydYy (ybXy NN) (by kernel_rfl) yCSy (cuts0 (fun _=>rfl) (by kernel_rfl)) (fun ps R K=>by unfold ybXy;split <;> (try unfold z32z_L3) <;> rfl) (yziy NN)
theorem yCRy (g:Nat):Same (yecy (@z32z_ g)) (abody (ynwy g) Tryz.f168 yo4y 0 [] [.asis] g):=by intro args;unfold yecy;split;exact .inr fun R k=>(by kernel_rfl);exact .inl fun R k=>rfl
theorem yEpy [Fuel]:OkD 168 (yecy (@z32z _)):=yacy stdD .nil ⟨rfl,rfl,by kernel_rfl,rfl,rfl,rfl⟩ (yCRy NN) (cutsL (fun _=>rfl) (.cons ywGy .nil) (by kernel_rfl)) Tryz.func168 (by kernel_rfl) (by kernel_rfl)
abbrev ytxy:Type 1:=G_Deed→G_Deed→{R:Type}→(Int→Option R)→Option R
structure C_z76z where
 N:Nat
 strings_Compare:yb8y
 z32z:yqJy
 z34z:yqwy
def z76z_ (g:C_z76z) (a1 a2:G_Deed) {R:Type} (k0:Int→Option R):Option R :=
 (g.z34z a1.f_At a2.f_At (fun r3=>(g.strings_Compare a1.f_Site a2.f_Site (fun r4=>(g.z34z a1.f_No a2.f_No (fun r5=>(g.z32z [r3,r4,r5] (fun r6=>k0 r6))))))))
noncomputable def yvVy [Fuel]:C_z76z:=⟨NN,@strings_Compare _,@z32z _,@z34z _⟩
noncomputable def z76z [Fuel]:ytxy:=@z76z_ yvVy
def ynCy (g:ytxy):Spec A:=fun args=>match args with | [.agg [.d (.str a1),.d (.int .i64 a2),.d (.int .i64 a3),.d (.int .i64 a4),.d (.int .i64 a5),.d (.int .i64 a6),.d (.str a7),.d (.str a8),.d (.int .i64 a9),.d (.int .i64 a10),.d (.str a11),.d (.str a12),.d (.str a13),.d (.str a14),.d (.int .i64 a15)],.agg [.d (.str a16),.d (.int .i64 a17),.d (.int .i64 a18),.d (.int .i64 a19),.d (.int .i64 a20),.d (.int .i64 a21),.d (.str a22),.d (.str a23),.d (.int .i64 a24),.d (.int .i64 a25),.d (.str a26),.d (.str a27),.d (.str a28),.d (.str a29),.d (.int .i64 a30)]]=>fun k=>g ⟨a1,a2,a3,a4,⟨a5,a6,a7,a8,a9,a10,a11,a12⟩,a13,a14,a15⟩ ⟨a16,a17,a18,a19,⟨a20,a21,a22,a23,a24,a25,a26,a27⟩,a28,a29,a30⟩ (fun z0=>k (.d (.int .i64 z0)) [.undef,.undef]) | _=>fun _=>none
noncomputable def yDny:Code:=(Tryz.f159.body).getD .skip
noncomputable def yIjy (g:C_z76z):Env A:=mkE [(118,ybCy g.strings_Compare),(168,yecy g.z32z),(169,yd5y g.z34z)] [(2,[0]),(3,[1]),(20,[2])] [] [] [] [] [] [] [] []
theorem yHTy (g:C_z76z):Same (ynCy (@z76z_ g)) (abody (yIjy g) Tryz.f159 yDny 3 [] [.asis] g.N):=by intro args;unfold ynCy;split;exact .inr fun R k=>(by kernel_rfl);exact .inl fun R k=>rfl
theorem yysy [Fuel]:Ok 159 (ynCy (@z76z _)):=yacy std (.cons ydAy (.cons yyDy (.cons yyLy .nil))) ⟨rfl,rfl,by kernel_rfl,rfl,rfl,rfl⟩ (yHTy yvVy) (cuts0 (fun _=>rfl) (by kernel_rfl)) Tryz.func159 (by kernel_rfl) (by kernel_rfl)
abbrev T_z7z:Type 1:=List G_Deed→{R:Type}→(Int→Option R)→Option R
structure C_z7z where
 N:Nat
 net_formed:yh8y
 z76z:ytxy
def z7z_L4 (g:C_z7z):Nat→List G_Deed→List G_Deed→Int→Int→{R:Type}→(List G_Deed→Int→Option R)→(List G_Deed→Option R)→Option R
 | 0,_,_,_,_,_,_,_=>none
 | n + 1,v2,v3,v4,v5,_,e0,e1=>(bif (decide (v5 < v4)) then (get_ v3 v5 fun x10=>(g.net_formed x10 (fun r11=>(bif (r11 != 0) then e0 v2 r11 else (bif (decide (v5 > 0)) then (get_ v2 (w64 (v5 - 1)) fun x12=>(g.z76z x12 x10 (fun r13=>(bif (decide (r13 ≥ 0)) then e0 v2 7 else z7z_L4 g n v2 v3 v4 (w64 (v5 + 1)) e0 e1)))) else z7z_L4 g n v2 v3 v4 (w64 (v5 + 1)) e0 e1))))) else e1 v2)
def z7z_L14 (g:C_z7z):Nat→List G_Deed→Int→Int→List (G_net_own×Bool)→{R:Type}→(Int→Option R)→Option R→Option R
 | 0,_,_,_,_,_,_,_=>none
 | n + 1,v17,v18,v19,v20,_,e0,e1=>(bif (decide (v19 < v18)) then (get_ v17 v19 fun x22=>(bif ((yaFy (⟨x22.f_Site,x22.f_No⟩:G_net_own) v20).getD false) then e0 6 else z7z_L14 g n v17 v18 (w64 (v19 + 1)) (yaMy (⟨x22.f_Site,x22.f_No⟩:G_net_own) true v20) e0 e1)) else e1)
def z7z_ (g:C_z7z) (a1:List G_Deed) {R:Type} (k0:Int→Option R):Option R :=
 (bif (decide ((a1.length:Int) > 2000)) then k0 2 else (z7z_L4 g g.N a1 a1 (a1.length:Int) 0 (fun e14 e15=>k0 e15) (fun e16=>(z7z_L14 g g.N e16 (e16.length:Int) 0 [] (fun e23=>k0 e23) (k0 0)))))
noncomputable def I_z7z [Fuel]:C_z7z:=⟨NN,@net_formed _,@z76z _⟩
noncomputable def z7z [Fuel]:T_z7z:=@z7z_ I_z7z
def yjAy (g:T_z7z):Spec A:=fun args=>match args with | [.d (.sl 71 a1)]=>fun k=>g a1 (fun z0=>k (.d (.int .i64 z0)) [.undef]) | _=>fun _=>none
def ymTy:SSt:=mkSh 56 4 [(0,.sl 71),(13,.sl 71),(14,.int .i64),(15,.int .i64)] []
def ygRy (g:C_z7z) (n:Nat):LPT A:=fun ps=>match ps with | [.d (.sl 71 p1),.d (.sl 71 p2),.d (.int .i64 p3),.d (.int .i64 p4)]=>fun K=>z7z_L4 g n p1 p2 p3 p4 (fun z0 z1=>K .ret (mkSt 56 4 [(0,.d (.sl 71 z0)),(2,.d (.int .i64 z1))] [])) (fun z0=>K (.exit 0) (mkSt 56 4 [(0,.d (.sl 71 z0))] [])) | _=>fun _=>none
def ykOy:SSt:=mkSh 56 4 [(6,.mp 1),(39,.sl 71),(40,.int .i64),(41,.int .i64)] [(1,.mp 182 4)]
def yfLy (g:C_z7z) (n:Nat):LPT A:=fun ps=>match ps with | [.d (.sl 71 p1),.d (.int .i64 p2),.d (.int .i64 p3),.mp 182 4 p4]=>fun K=>z7z_L14 g n p1 p2 p3 p4 (fun z0=>K .ret (mkSt 56 4 [(2,.d (.int .i64 z0))] [])) (K (.exit 2) (mkSt 56 4 [] [])) | _=>fun _=>none
noncomputable def yoTy:Code:=(Tryz.f107.body).getD .skip
noncomputable def E_z7z (g:C_z7z):Env A:=mkE [(158,yeEy g.net_formed),(159,ynCy g.z76z)] [(4,[0]),(8,[2]),(9,[3]),(38,[1])] [(4,⟨[0,13,14,15],[],[],[],[],[],[]⟩),(14,⟨[6,39,40,41],[],[1],[],[],[],[]⟩)] [(4,⟨[0,2],[],[],[],[],[],[]⟩),(14,⟨[2],[],[],[],[],[],[]⟩)] [(4,yajy ymTy (ygRy g g.N)),(14,yajy ykOy (yfLy g g.N))] [] [] [] [] []
theorem yCry [Fuel]:yahy (E_z7z I_z7z).C:=ct_of (P:=Tryz.prog) (T:=T) (.cons ylHy (.cons yysy .nil)) (by kernel_rfl)
noncomputable def ysiy:Code:=sub [1,1,0,1,0,0] yoTy
theorem yCMy (g:C_z7z) (n:Nat):yaCy (E_z7z g) g.N ysiy ymTy (ygRy g) n:=by intro ps;unfold ygRy;split;exact .inr fun R K=>(by kernel_rfl);exact .inl fun R K=>rfl
theorem yATy [Fuel]:yaiy (E_z7z I_z7z) NN ysiy:=yamy ymTy (ygRy I_z7z) (by kernel_rfl) yCry (cuts0 (fun _=>rfl) (by kernel_rfl)) (fun ps R K=>by unfold ygRy;split <;> (try unfold z7z_L4) <;> rfl) (yCMy I_z7z)
noncomputable def yq7y:Code:=sub [1,1,1,1,0,1,0,0] yoTy
theorem yCly (g:C_z7z) (n:Nat):yaCy (E_z7z g) g.N yq7y ykOy (yfLy g) n:=by intro ps;unfold yfLy;split;exact .inr fun R K=>(by kernel_rfl);exact .inl fun R K=>rfl
theorem yAjy [Fuel]:yaiy (E_z7z I_z7z) NN yq7y:=yamy ykOy (yfLy I_z7z) (by kernel_rfl) yCry (cuts0 (fun _=>rfl) (by kernel_rfl)) (fun ps R K=>by unfold yfLy;split <;> (try unfold z7z_L14) <;> rfl) (yCly I_z7z)
theorem yILy (g:C_z7z):Same (yjAy (@z7z_ g)) (abody (E_z7z g) Tryz.f107 yoTy 4 [] [.asis] g.N):=by intro args;unfold yjAy;split;exact .inr fun R k=>(by kernel_rfl);exact .inl fun R k=>rfl
theorem yl6y [Fuel]:Ok 107 (yjAy (@z7z _)):=yacy std (.cons ylHy (.cons yysy .nil)) ⟨rfl,rfl,by kernel_rfl,rfl,rfl,rfl⟩ (yILy I_z7z) (cutsL (fun _=>rfl) (.cons yATy (.cons yAjy .nil)) (by kernel_rfl)) Tryz.func107 (by kernel_rfl) (by kernel_rfl)
abbrev yp9y:Type 1:={R:Type}→(List (List UInt8)→Option R)→Option R
def z78z_ (g:Nat)  {R:Type} (k0:List (List UInt8)→Option R):Option R :=
 k0 [[],[108,111,103],[116,117,110,101],[104,101,108,100],[102,114,101,101],[117,110,100,111]]
noncomputable def z78z [Fuel]:yp9y:=@z78z_ NN
def yjPy (g:yp9y):Spec A:=fun args=>match args with | []=>fun k=>g (fun z0=>k (.arr 9 z0) []) | _=>fun _=>none
noncomputable def yD6y:Code:=(Tryz.f160.body).getD .skip
noncomputable def yIgy (g:Nat):Env A:=mkE [] [(1,[0])] [] [] [] [] [] [] [] []
theorem yFCy (g:Nat):Same (yjPy (@z78z_ g)) (abody (yIgy g) Tryz.f160 yD6y 1 [] [.arr 9] g):=by intro args;unfold yjPy;split;exact .inr fun R k=>(by kernel_rfl);exact .inl fun R k=>rfl
theorem yywy [Fuel]:Ok 160 (yjPy (@z78z _)):=yacy std .nil ⟨rfl,rfl,by kernel_rfl,rfl,rfl,rfl⟩ (yFCy NN) (cuts0 (fun _=>rfl) (by kernel_rfl)) Tryz.func160 (by kernel_rfl) (by kernel_rfl)
abbrev yq6y:Type 1:={R:Type}→(List (List UInt8)→Option R)→Option R
def z79z_ (g:Nat)  {R:Type} (k0:List (List UInt8)→Option R):Option R :=
 k0 [[],[99,111,100,101],[118,111,105,99,101],[100,97,116,97]]
noncomputable def z79z [Fuel]:yq6y:=@z79z_ NN
def yjXy (g:yq6y):Spec A:=fun args=>match args with | []=>fun k=>g (fun z0=>k (.arr 9 z0) []) | _=>fun _=>none
noncomputable def yGHy:Code:=(Tryz.f81.body).getD .skip
noncomputable def yIay (g:Nat):Env A:=mkE [] [(1,[0])] [] [] [] [] [] [] [] []
theorem yF2y (g:Nat):Same (yjXy (@z79z_ g)) (abody (yIay g) Tryz.f81 yGHy 1 [] [.arr 9] g):=by intro args;unfold yjXy;split;exact .inr fun R k=>(by kernel_rfl);exact .inl fun R k=>rfl
theorem yxLy [Fuel]:Ok 81 (yjXy (@z79z _)):=yacy std .nil ⟨rfl,rfl,by kernel_rfl,rfl,rfl,rfl⟩ (yF2y NN) (cuts0 (fun _=>rfl) (by kernel_rfl)) Tryz.func81 (by kernel_rfl) (by kernel_rfl)
abbrev ylby:Type 1:=List UInt8→{R:Type}→(List UInt8→Option R)→Option R
def yi4y (g:Nat) (a1:List UInt8) {R:Type} (k0:List UInt8→Option R):Option R :=
 (bif (a1 == []) then k0 [45] else k0 a1)
noncomputable def kit_Dash [Fuel]:ylby:=@yi4y NN
def ygAy (g:ylby):Spec A:=fun args=>match args with | [.d (.str a1)]=>fun k=>g a1 (fun z0=>k (.d (.str z0)) [.undef]) | _=>fun _=>none
noncomputable def yCOy:Code:=(Tryz.f123.body).getD .skip
noncomputable def yy4y (g:Nat):Env A:=mkE [] [] [] [] [] [] [] [] [] []
theorem ywLy (g:Nat):Same (ygAy (@yi4y g)) (abody (yy4y g) Tryz.f123 yCOy 0 [] [.asis] g):=by intro args;unfold ygAy;split;exact .inr fun R k=>(by kernel_rfl);exact .inl fun R k=>rfl
theorem yxry [Fuel]:Ok 123 (ygAy (@kit_Dash _)):=yacy std .nil ⟨rfl,rfl,by kernel_rfl,rfl,rfl,rfl⟩ (ywLy NN) (cuts0 (fun _=>rfl) (by kernel_rfl)) Tryz.func123 (by kernel_rfl) (by kernel_rfl)
abbrev yhHy:Type 1:=List (List UInt8)→{R:Type}→(List UInt8→Option R)→Option R
structure C_kit_Join where
 N:Nat
 strings_Join:yc1y
def ye3y (g:C_kit_Join) (a1:List (List UInt8)) {R:Type} (k0:List UInt8→Option R):Option R :=
 (g.strings_Join a1 [32] (fun r2=>(bif (strOk r2 [10]) then k0 (r2++[10]) else none)))
noncomputable def yd0y [Fuel]:C_kit_Join:=⟨NN,@strings_Join _⟩
noncomputable def kit_Join [Fuel]:yhHy:=@ye3y yd0y
def yehy (g:yhHy):Spec A:=fun args=>match args with | [.d (.sl 9 a1)]=>fun k=>g a1 (fun z0=>k (.d (.str z0)) [.undef]) | _=>fun _=>none
noncomputable def yGDy:Code:=(Tryz.f78.body).getD .skip
noncomputable def yzay (g:C_kit_Join):Env A:=mkE [(86,ybMy g.strings_Join)] [] [] [] [] [] [] [] [] []
theorem yxjy (g:C_kit_Join):Same (yehy (@ye3y g)) (abody (yzay g) Tryz.f78 yGDy 0 [] [.asis] g.N):=by intro args;unfold yehy;split;exact .inr fun R k=>(by kernel_rfl);exact .inl fun R k=>rfl
theorem yoky [Fuel]:Ok 78 (yehy (@kit_Join _)):=yacy std (.cons ydyy .nil) ⟨rfl,rfl,by kernel_rfl,rfl,rfl,rfl⟩ (yxjy yd0y) (cuts0 (fun _=>rfl) (by kernel_rfl)) Tryz.func78 (by kernel_rfl) (by kernel_rfl)
abbrev yley:Type 1:=G_Contact→{R:Type}→(List UInt8→Option R)→Option R
structure C_log_Line where
 N:Nat
 kit_Join:yhHy
 strconv_Itoa:ybGy
 z79z:yq6y
 kit_Dash:ylby
def yiUy (g:C_log_Line) (a1:G_Contact) {R:Type} (k0:List UInt8→Option R):Option R :=
 (g.strconv_Itoa a1.f_At (fun r2=>(g.z79z (fun r3=>(inr r3 a1.f_Mode (at_ r3 a1.f_Mode fun x4=>(g.strconv_Itoa a1.f_Sent (fun r5=>(g.kit_Dash a1.f_Gave (fun r6=>(g.strconv_Itoa a1.f_Heard (fun r7=>(g.kit_Dash a1.f_Got (fun r8=>(g.kit_Join [r2,x4,a1.f_Band,a1.f_Call,r5,r6,r7,r8] (fun r9=>k0 r9))))))))))))))))
noncomputable def ybWy [Fuel]:C_log_Line:=⟨NN,@kit_Join _,@strconv_Itoa _,@z79z _,@kit_Dash _⟩
noncomputable def log_Line [Fuel]:yley:=@yiUy ybWy
def ygKy (g:yley):Spec A:=fun args=>match args with | [.agg [.d (.int .i64 a1),.d (.int .i64 a2),.d (.str a3),.d (.str a4),.d (.int .i64 a5),.d (.int .i64 a6),.d (.str a7),.d (.str a8)]]=>fun k=>g ⟨a1,a2,a3,a4,a5,a6,a7,a8⟩ (fun z0=>k (.d (.str z0)) [.undef]) | _=>fun _=>none
noncomputable def yFJy:Code:=(Tryz.f55.body).getD .skip
noncomputable def yzny (g:C_log_Line):Env A:=mkE [(78,yehy g.kit_Join),(79,ybPy g.strconv_Itoa),(81,yjXy g.z79z),(123,ygAy g.kit_Dash)] [(1,[0]),(6,[1]),(27,[2])] [] [] [] [] [] [] [] []
theorem ywUy (g:C_log_Line):Same (ygKy (@yiUy g)) (abody (yzny g) Tryz.f55 yFJy 3 [] [.asis] g.N):=by intro args;unfold ygKy;split;exact .inr fun R k=>(by kernel_rfl);exact .inl fun R k=>rfl
theorem yxty [Fuel]:Ok 55 (ygKy (@log_Line _)):=yacy std (.cons yoky (.cons ybry (.cons yxLy (.cons yxry .nil)))) ⟨rfl,rfl,by kernel_rfl,rfl,rfl,rfl⟩ (ywUy ybWy) (cuts0 (fun _=>rfl) (by kernel_rfl)) Tryz.func55 (by kernel_rfl) (by kernel_rfl)
abbrev ytcy:Type 1:=G_Deed→{R:Type}→(List UInt8→Option R)→Option R
structure C_z67z where
 N:Nat
 log_Line:yley
 kit_Join:yhHy
 strconv_Itoa:ybGy
 z78z:yp9y
def z67z_ (g:C_z67z) (a1:G_Deed) {R:Type} (k0:List UInt8→Option R):Option R :=
 (bif (strOk a1.f_Site [32]) then (g.strconv_Itoa a1.f_No (fun r2=>(bif (strOk (a1.f_Site++[32]) r2) then (bif (strOk ((a1.f_Site++[32])++r2) [32]) then (g.strconv_Itoa a1.f_At (fun r3=>(bif (strOk (((a1.f_Site++[32])++r2)++[32]) r3) then (bif (strOk ((((a1.f_Site++[32])++r2)++[32])++r3) [32]) then (g.z78z (fun r4=>(inr r4 a1.f_Kind (at_ r4 a1.f_Kind fun x5=>(bif (strOk (((((a1.f_Site++[32])++r2)++[32])++r3)++[32]) x5) then (bif (strOk ((((((a1.f_Site++[32])++r2)++[32])++r3)++[32])++x5) [32]) then (bif (a1.f_Kind == 1) then (g.log_Line a1.f_Contact (fun r6=>(bif (strOk (((((((a1.f_Site++[32])++r2)++[32])++r3)++[32])++x5)++[32]) r6) then k0 ((((((((a1.f_Site++[32])++r2)++[32])++r3)++[32])++x5)++[32])++r6) else none))) else (bif (a1.f_Kind == 2) then (g.kit_Join [a1.f_Band] (fun r7=>(bif (strOk (((((((a1.f_Site++[32])++r2)++[32])++r3)++[32])++x5)++[32]) r7) then k0 ((((((((a1.f_Site++[32])++r2)++[32])++r3)++[32])++x5)++[32])++r7) else none))) else (bif (a1.f_Kind == 5) then (g.strconv_Itoa a1.f_Other (fun r8=>(g.kit_Join [a1.f_Of,r8] (fun r9=>(bif (strOk (((((((a1.f_Site++[32])++r2)++[32])++r3)++[32])++x5)++[32]) r9) then k0 ((((((((a1.f_Site++[32])++r2)++[32])++r3)++[32])++x5)++[32])++r9) else none))))) else (g.strconv_Itoa a1.f_Contact.f_Sent (fun r10=>(g.kit_Join [r10] (fun r11=>(bif (strOk (((((((a1.f_Site++[32])++r2)++[32])++r3)++[32])++x5)++[32]) r11) then k0 ((((((((a1.f_Site++[32])++r2)++[32])++r3)++[32])++x5)++[32])++r11) else none)))))))) else none) else none))))) else none) else none))) else none) else none))) else none)
noncomputable def ydhy [Fuel]:C_z67z:=⟨NN,@log_Line _,@kit_Join _,@strconv_Itoa _,@z78z _⟩
noncomputable def z67z [Fuel]:ytcy:=@z67z_ ydhy
def ynMy (g:ytcy):Spec A:=fun args=>match args with | [.agg [.d (.str a1),.d (.int .i64 a2),.d (.int .i64 a3),.d (.int .i64 a4),.d (.int .i64 a5),.d (.int .i64 a6),.d (.str a7),.d (.str a8),.d (.int .i64 a9),.d (.int .i64 a10),.d (.str a11),.d (.str a12),.d (.str a13),.d (.str a14),.d (.int .i64 a15)]]=>fun k=>g ⟨a1,a2,a3,a4,⟨a5,a6,a7,a8,a9,a10,a11,a12⟩,a13,a14,a15⟩ (fun z0=>k (.d (.str z0)) [.undef]) | _=>fun _=>none
noncomputable def yDgy:Code:=(Tryz.f108.body).getD .skip
noncomputable def yIGy (g:C_z67z):Env A:=mkE [(55,ygKy g.log_Line),(78,yehy g.kit_Join),(79,ybPy g.strconv_Itoa),(160,yjPy g.z78z)] [(1,[0]),(17,[1]),(38,[2]),(49,[3]),(57,[4])] [] [] [] [] [] [] [] []
theorem yF4y (g:C_z67z):Same (ynMy (@z67z_ g)) (abody (yIGy g) Tryz.f108 yDgy 5 [] [.asis] g.N):=by intro args;unfold ynMy;split;exact .inr fun R k=>(by kernel_rfl);exact .inl fun R k=>rfl
theorem yygy [Fuel]:Ok 108 (ynMy (@z67z _)):=yacy std (.cons yxty (.cons yoky (.cons ybry (.cons yywy .nil)))) ⟨rfl,rfl,by kernel_rfl,rfl,rfl,rfl⟩ (yF4y ydhy) (cuts0 (fun _=>rfl) (by kernel_rfl)) Tryz.func108 (by kernel_rfl) (by kernel_rfl)
abbrev ykoy:Type 1:=List G_Deed→{R:Type}→(List UInt8→Int→Option R)→Option R
structure C_net_Text where
 N:Nat
 z7z:T_z7z
 z67z:ytcy
def ycHy (g:C_net_Text):Nat→List G_Deed→Int→Int→List UInt8→{R:Type}→(List UInt8→Option R)→Option R
 | 0,_,_,_,_,_,_=>none
 | n + 1,v3,v4,v5,v6,_,e0=>(bif (decide (v5 < v4)) then (get_ v3 v5 fun x9=>(g.z67z x9 (fun r10=>(bif (decide (v6.length + r10.length≤140737488355328)) then ycHy g n v3 v4 (w64 (v5 + 1)) (v6++r10) e0 else none)))) else e0 v6)
def ye2y (g:C_net_Text) (a1:List G_Deed) {R:Type} (k0:List UInt8→Int→Option R):Option R :=
 (g.z7z a1 (fun r2=>(bif (r2 != 0) then k0 [] r2 else (ycHy g g.N a1 (a1.length:Int) 0 [] (fun e11=>(bif (decide ((e11.length:Int) > 200000)) then k0 [] 2 else k0 e11 0))))))
noncomputable def ybwy [Fuel]:C_net_Text:=⟨NN,@z7z _,@z67z _⟩
noncomputable def net_Text [Fuel]:ykoy:=@ye2y ybwy
def yguy (g:ykoy):Spec A:=fun args=>match args with | [.d (.sl 71 a1)]=>fun k=>g a1 (fun z0 z1=>k (.tup [.d (.str z0),.d (.int .i64 z1)]) [.undef]) | _=>fun _=>none
def yf8y:SSt:=mkSh 26 2 [(5,.ptr 0 0),(13,.sl 71),(14,.int .i64),(15,.int .i64)] [(0,.bld)]
def ycXy (g:C_net_Text) (n:Nat):LPT A:=fun ps=>match ps with | [.d (.sl 71 p1),.d (.int .i64 p2),.d (.int .i64 p3),.d (.str p4)]=>fun K=>ycHy g n p1 p2 p3 p4 (fun z0=>K (.exit 0) (mkSt 26 2 [(5,.ptr 0 0)] [(0,some (.bld z0))])) | _=>fun _=>none
noncomputable def yypy:Code:=(Tryz.f37.body).getD .skip
noncomputable def yhxy (g:C_net_Text):Env A:=mkE [(107,yjAy g.z7z),(108,ynMy g.z67z)] [(5,[0]),(7,[1])] [(6,⟨[5,13,14,15],[],[0],[],[],[],[]⟩)] [(6,⟨[5],[],[0],[],[],[],[]⟩)] [(6,yajy yf8y (ycXy g g.N))] [] [] [] [] []
theorem yxyy [Fuel]:yahy (yhxy ybwy).C:=ct_of (P:=Tryz.prog) (T:=T) (.cons yl6y (.cons yygy .nil)) (by kernel_rfl)
noncomputable def yjqy:Code:=sub [1,1,1,0,1,0,0] yypy
theorem ys7y (g:C_net_Text) (n:Nat):yaCy (yhxy g) g.N yjqy yf8y (ycXy g) n:=by intro ps;unfold ycXy;split;exact .inr fun R K=>(by kernel_rfl);exact .inl fun R K=>rfl
theorem yrky [Fuel]:yaiy (yhxy ybwy) NN yjqy:=yamy yf8y (ycXy ybwy) (by kernel_rfl) yxyy (cuts0 (fun _=>rfl) (by kernel_rfl)) (fun ps R K=>by unfold ycXy;split <;> (try unfold ycHy) <;> rfl) (ys7y ybwy)
theorem yw0y (g:C_net_Text):Same (yguy (@ye2y g)) (abody (yhxy g) Tryz.f37 yypy 2 [] [.asis,.asis] g.N):=by intro args;unfold yguy;split;exact .inr fun R k=>(by kernel_rfl);exact .inl fun R k=>rfl
theorem yw3y [Fuel]:Ok 37 (yguy (@net_Text _)):=yacy std (.cons yl6y (.cons yygy .nil)) ⟨rfl,rfl,by kernel_rfl,rfl,rfl,rfl⟩ (yw0y ybwy) (cutsL (fun _=>rfl) (.cons yrky .nil) (by kernel_rfl)) Tryz.func37 (by kernel_rfl) (by kernel_rfl)
abbrev yuey:Type 1:=List UInt8→List UInt8→{R:Type}→(Bool→Option R)→Option R
def z66z_ (g:Nat) (a1 a2:List UInt8) {R:Type} (k0:Bool→Option R):Option R :=
 (bif (decide ((a1.length:Int) ≥ (a2.length:Int))) then (bif (decide (0≤(w64 ((a1.length:Int) - (a2.length:Int))))&&decide ((w64 ((a1.length:Int) - (a2.length:Int)))≤(a1.length:Int))) then k0 ((a1.drop ((w64 ((a1.length:Int) - (a2.length:Int))):Int).toNat) == a2) else none) else k0 false)
noncomputable def z66z [Fuel]:yuey:=@z66z_ NN
def ynuy (g:yuey):Spec A:=fun args=>match args with | [.d (.str a1),.d (.str a2)]=>fun k=>g a1 a2 (fun z0=>k (.d (.bool z0)) [.undef,.undef]) | _=>fun _=>none
noncomputable def yDRy:Code:=(Tryz.f214.body).getD .skip
noncomputable def yJky (g:Nat):Env A:=mkE [] [] [] [] [] [] [] [] [] []
theorem yFyy (g:Nat):Same (ynuy (@z66z_ g)) (abody (yJky g) Tryz.f214 yDRy 0 [] [.asis] g):=by intro args;unfold ynuy;split;exact .inr fun R k=>(by kernel_rfl);exact .inl fun R k=>rfl
theorem yGCy [Fuel]:Ok 214 (ynuy (@z66z _)):=yacy std .nil ⟨rfl,rfl,by kernel_rfl,rfl,rfl,rfl⟩ (yFyy NN) (cuts0 (fun _=>rfl) (by kernel_rfl)) Tryz.func214 (by kernel_rfl) (by kernel_rfl)
abbrev yvpy:Type 1:=List UInt8→List UInt8→{R:Type}→(List UInt8→Bool→Option R)→Option R
structure C_z50z where
 N:Nat
 z66z:yuey
def z50z_ (g:C_z50z) (a1 a2:List UInt8) {R:Type} (k0:List UInt8→Bool→Option R):Option R :=
 (g.z66z a1 a2 (fun r3=>(bif (!r3) then k0 a1 false else (bif (decide (0≤(w64 ((a1.length:Int) - (a2.length:Int))))&&decide ((w64 ((a1.length:Int) - (a2.length:Int)))≤(a1.length:Int))) then k0 (a1.take ((w64 ((a1.length:Int) - (a2.length:Int))):Int).toNat) true else none))))
noncomputable def yp0y [Fuel]:C_z50z:=⟨NN,@z66z _⟩
noncomputable def z50z [Fuel]:yvpy:=@z50z_ yp0y
def ynRy (g:yvpy):Spec A:=fun args=>match args with | [.d (.str a1),.d (.str a2)]=>fun k=>g a1 a2 (fun z0 z1=>k (.tup [.d (.str z0),.d (.bool z1)]) [.undef,.undef]) | _=>fun _=>none
noncomputable def yEAy:Code:=(Tryz.f171.body).getD .skip
noncomputable def yH5y (g:C_z50z):Env A:=mkE [(214,ynuy g.z66z)] [] [] [] [] [] [] [] [] []
theorem yG9y (g:C_z50z):Same (ynRy (@z50z_ g)) (abody (yH5y g) Tryz.f171 yEAy 0 [] [.asis,.asis] g.N):=by intro args;unfold ynRy;split;exact .inr fun R k=>(by kernel_rfl);exact .inl fun R k=>rfl
theorem yHNy [Fuel]:Ok 171 (ynRy (@z50z _)):=yacy std (.cons yGCy .nil) ⟨rfl,rfl,by kernel_rfl,rfl,rfl,rfl⟩ (yG9y yp0y) (cuts0 (fun _=>rfl) (by kernel_rfl)) Tryz.func171 (by kernel_rfl) (by kernel_rfl)
abbrev yuWy:Type 1:=List UInt8→List UInt8→{R:Type}→(List UInt8→Bool→Option R)→Option R
structure C_z65z where
 N:Nat
 z50z:yvpy
def z65z_ (g:C_z65z) (a1 a2:List UInt8) {R:Type} (k0:List UInt8→Bool→Option R):Option R :=
 (g.z50z a1 a2 (fun r3 r4=>k0 r3 r4))
noncomputable def yARy [Fuel]:C_z65z:=⟨NN,@z50z _⟩
noncomputable def z65z [Fuel]:yuWy:=@z65z_ yARy
def yn6y (g:yuWy):Spec A:=fun args=>match args with | [.d (.str a1),.d (.str a2)]=>fun k=>g a1 a2 (fun z0 z1=>k (.tup [.d (.str z0),.d (.bool z1)]) [.undef,.undef]) | _=>fun _=>none
noncomputable def yCVy:Code:=(Tryz.f125.body).getD .skip
noncomputable def yJny (g:C_z65z):Env A:=mkE [(171,ynRy g.z50z)] [] [] [] [] [] [] [] [] []
theorem yEYy (g:C_z65z):Same (yn6y (@z65z_ g)) (abody (yJny g) Tryz.f125 yCVy 0 [] [.asis,.asis] g.N):=by intro args;unfold yn6y;split;exact .inr fun R k=>(by kernel_rfl);exact .inl fun R k=>rfl
theorem yF8y [Fuel]:Ok 125 (yn6y (@z65z _)):=yacy std (.cons yHNy .nil) ⟨rfl,rfl,by kernel_rfl,rfl,rfl,rfl⟩ (yEYy yARy) (cuts0 (fun _=>rfl) (by kernel_rfl)) Tryz.func125 (by kernel_rfl) (by kernel_rfl)
abbrev yfDy:Type 1:=List UInt8→List UInt8→{R:Type}→(Int→Option R)→Option R
def strings_Count [Fuel]:yfDy:=@yqey
def yiby (g:yfDy):Spec A:=yisy g
theorem yh9y [Fuel]:Ok 216 (yiby (@strings_Count _)):=⟨yrvy (yAoy (Any.strings_Count_one Tryz.lays138)),yvzy,enters_of (fn:=Tryz.f216) Tryz.func216 (by kernel_rfl) (by kernel_rfl)⟩
abbrev yuyy:Type 1:=List UInt8→List UInt8→Int→Int→{R:Type}→(List (List UInt8)→Option R)→Option R
structure C_z25z where
 N:Nat
 strings_Count:yfDy
 strings_Index:ydxy
def z25z_L11 (g:C_z25z):Nat→List UInt8→List UInt8→Int→Int→Int→List (List UInt8)→{R:Type}→(List UInt8→Int→List (List UInt8)→Option R)→Option R
 | 0,_,_,_,_,_,_,_,_=>none
 | n + 1,v6,v7,v8,v9,v10,v11,_,e0=>(bif (decide (v10 < v9)) then (g.strings_Index v6 v7 (fun r14=>(bif (decide (r14 < 0)) then e0 v6 v10 v11 else (bif (decide (0≤(w64 (r14 + v8)))&&decide ((w64 (r14 + v8))≤(v6.length:Int))) then (inr v11 v10 (at_ v11 v10 fun x15=>(bif (decide (0≤(w64 (r14 + (v7.length:Int))))&&decide ((w64 (r14 + (v7.length:Int)))≤(v6.length:Int))) then z25z_L11 g n (v6.drop ((w64 (r14 + (v7.length:Int))):Int).toNat) v7 v8 v9 (w64 (v10 + 1)) (set_ v11 v10 (v6.take ((w64 (r14 + v8)):Int).toNat)) e0 else none))) else none)))) else e0 v6 v10 v11)
def z25z_ (g:C_z25z) (a1 a2:List UInt8) (a3 a4:Int) {R:Type} (k0:List (List UInt8)→Option R):Option R :=
 (bif (a4 == 0) then k0 [] else (bif (a2 == []) then none else (bif (decide (a4 < 0)) then (g.strings_Count a1 a2 (fun r5=>(bif (decide (0≤(if (w64 ((a1.length:Int) + 1)) < (w64 (r5 + 1)) then (w64 ((a1.length:Int) + 1)) else (w64 (r5 + 1))))&&(decide ((if (w64 ((a1.length:Int) + 1)) < (w64 (r5 + 1)) then (w64 ((a1.length:Int) + 1)) else (w64 (r5 + 1)))≤(if (w64 ((a1.length:Int) + 1)) < (w64 (r5 + 1)) then (w64 ((a1.length:Int) + 1)) else (w64 (r5 + 1))))&&decide ((if (w64 ((a1.length:Int) + 1)) < (w64 (r5 + 1)) then (w64 ((a1.length:Int) + 1)) else (w64 (r5 + 1))) * (16:Nat)≤140737488355328))) then (z25z_L11 g g.N a1 a2 a3 (w64 ((if (w64 ((a1.length:Int) + 1)) < (w64 (r5 + 1)) then (w64 ((a1.length:Int) + 1)) else (w64 (r5 + 1))) - 1)) 0 (List.replicate ((if (w64 ((a1.length:Int) + 1)) < (w64 (r5 + 1)) then (w64 ((a1.length:Int) + 1)) else (w64 (r5 + 1))):Int).toNat []) (fun e16 e17 e18=>(inr e18 e17 (at_ e18 e17 fun x19=>(bif (decide (0≤(w64 (e17 + 1)))&&decide ((w64 (e17 + 1))≤((set_ e18 e17 e16).length:Int))) then k0 ((set_ e18 e17 e16).take ((w64 (e17 + 1)):Int).toNat) else none))))) else none))) else (bif (decide (0≤(if (w64 ((a1.length:Int) + 1)) < a4 then (w64 ((a1.length:Int) + 1)) else a4))&&(decide ((if (w64 ((a1.length:Int) + 1)) < a4 then (w64 ((a1.length:Int) + 1)) else a4)≤(if (w64 ((a1.length:Int) + 1)) < a4 then (w64 ((a1.length:Int) + 1)) else a4))&&decide ((if (w64 ((a1.length:Int) + 1)) < a4 then (w64 ((a1.length:Int) + 1)) else a4) * (16:Nat)≤140737488355328))) then (z25z_L11 g g.N a1 a2 a3 (w64 ((if (w64 ((a1.length:Int) + 1)) < a4 then (w64 ((a1.length:Int) + 1)) else a4) - 1)) 0 (List.replicate ((if (w64 ((a1.length:Int) + 1)) < a4 then (w64 ((a1.length:Int) + 1)) else a4):Int).toNat []) (fun e20 e21 e22=>(inr e22 e21 (at_ e22 e21 fun x23=>(bif (decide (0≤(w64 (e21 + 1)))&&decide ((w64 (e21 + 1))≤((set_ e22 e21 e20).length:Int))) then k0 ((set_ e22 e21 e20).take ((w64 (e21 + 1)):Int).toNat) else none))))) else none))))
noncomputable def yeky [Fuel]:C_z25z:=⟨NN,@strings_Count _,@strings_Index _⟩
noncomputable def z25z [Fuel]:yuyy:=@z25z_ yeky
def ynyy (g:yuyy):Spec A:=fun args=>match args with | [.d (.str a1),.d (.str a2),.d (.int .i64 a3),.d (.int .i64 a4)]=>fun k=>g a1 a2 a3 a4 (fun z0=>k (.arr 9 z0) [.undef,.undef,.undef,.undef]) | _=>fun _=>none
def yjey:SSt:=mkSh 66 2 [(0,.str),(1,.str),(2,.int .i64),(3,.int .i64),(9,.own 9 0),(10,.int .i64)] [(0,.row 9)]
def yeny (g:C_z25z) (n:Nat):LPT A:=fun ps=>match ps with | [.d (.str p1),.d (.str p2),.d (.int .i64 p3),.d (.int .i64 p4),.d (.int .i64 p5),.d (.sl 9 p6)]=>fun K=>z25z_L11 g n p1 p2 p3 p4 p5 p6 (fun z0 z1 z2=>K (.exit 0) (mkSt 66 2 [(0,.d (.str z0)),(9,.own 9 0),(10,.d (.int .i64 z1))] [(0,some (.row 9 z2))])) | _=>fun _=>none
noncomputable def yv4y:Code:=(Tryz.f172.body).getD .skip
noncomputable def yp5y (g:C_z25z):Env A:=mkE [(216,yiby g.strings_Count),(217,ycmy g.strings_Index)] [(31,[0]),(65,[1])] [(11,⟨[0,1,2,3,9,10],[],[0],[],[],[],[]⟩)] [(11,⟨[0,9,10],[],[0],[],[],[],[]⟩)] [(11,yajy yjey (yeny g g.N))] [] [] [] [] []
theorem yHEy [Fuel]:yahy (yp5y yeky).C:=ct_of (P:=Tryz.prog) (T:=T) (.cons yh9y (.cons yeRy .nil)) (by kernel_rfl)
noncomputable def yoxy:Code:=sub [1,1,1,1,1,1,1,1,0,0,0] yv4y
theorem yzJy (g:C_z25z) (n:Nat):yaCy (yp5y g) g.N yoxy yjey (yeny g) n:=by intro ps;unfold yeny;split;exact .inr fun R K=>(by kernel_rfl);exact .inl fun R K=>rfl
theorem yw6y [Fuel]:yaiy (yp5y yeky) NN yoxy:=yamy yjey (yeny yeky) (by kernel_rfl) yHEy (cuts0 (fun _=>rfl) (by kernel_rfl)) (fun ps R K=>by unfold yeny;split <;> (try unfold z25z_L11) <;> rfl) (yzJy yeky)
theorem yHey (g:C_z25z):Same (ynyy (@z25z_ g)) (abody (yp5y g) Tryz.f172 yv4y 2 [] [.arr 9] g.N):=by intro args;unfold ynyy;split;exact .inr fun R k=>(by kernel_rfl);exact .inl fun R k=>rfl
theorem yGly [Fuel]:Ok 172 (ynyy (@z25z _)):=yacy std (.cons yh9y (.cons yeRy .nil)) ⟨rfl,rfl,by kernel_rfl,rfl,rfl,rfl⟩ (yHey yeky) (cutsL (fun _=>rfl) (.cons yw6y .nil) (by kernel_rfl)) Tryz.func172 (by kernel_rfl) (by kernel_rfl)
abbrev ymby:Type 1:=List UInt8→List UInt8→{R:Type}→(List (List UInt8)→Option R)→Option R
structure C_z56z where
 N:Nat
 z25z:yuyy
def z56z_ (g:C_z56z) (a1 a2:List UInt8) {R:Type} (k0:List (List UInt8)→Option R):Option R :=
 (g.z25z a1 a2 0 (-1) (fun r3=>k0 r3))
noncomputable def yBSy [Fuel]:C_z56z:=⟨NN,@z25z _⟩
noncomputable def z56z [Fuel]:ymby:=@z56z_ yBSy
def yhWy (g:ymby):Spec A:=fun args=>match args with | [.d (.str a1),.d (.str a2)]=>fun k=>g a1 a2 (fun z0=>k (.arr 9 z0) [.undef,.undef]) | _=>fun _=>none
noncomputable def yEey:Code:=(Tryz.f126.body).getD .skip
noncomputable def yIzy (g:C_z56z):Env A:=mkE [(172,ynyy g.z25z)] [(7,[0])] [] [] [] [] [] [] [] []
theorem yGNy (g:C_z56z):Same (yhWy (@z56z_ g)) (abody (yIzy g) Tryz.f126 yEey 1 [] [.arr 9] g.N):=by intro args;unfold yhWy;split;exact .inr fun R k=>(by kernel_rfl);exact .inl fun R k=>rfl
theorem yoey [Fuel]:Ok 126 (yhWy (@z56z _)):=yacy std (.cons yGly .nil) ⟨rfl,rfl,by kernel_rfl,rfl,rfl,rfl⟩ (yGNy yBSy) (cuts0 (fun _=>rfl) (by kernel_rfl)) Tryz.func126 (by kernel_rfl) (by kernel_rfl)
end Go.Am
