/- The functions of the program as Lean functions, each shown to be what the code computes, part 7. No condition: lemmas for the claim. -/
import Derived.Test.YtoajjnhmofegcaaGreatDoorF0
import Derived.Test.YtoajjnhmofegcaaGreatDoorFSh
import Derived.Test.YtoajjnhmofegcaaGreatDoorF3
import Derived.Test.YtoajjnhmofegcaaGreatDoorF6
set_option linter.unusedVariables false
set_option maxRecDepth 100000
namespace Go.Am
open Go Go.Proofs
abbrev yjby:Type 1:=List UInt8→{R:Type}→(List (List UInt8)→Bool→Option R)→Option R
structure C_kit_Lines where
 N:Nat
 z65z:yuWy
 z56z:ymby
def yhCy (g:C_kit_Lines) (a1:List UInt8) {R:Type} (k0:List (List UInt8)→Bool→Option R):Option R :=
 (bif (a1 == []) then k0 [] true else (g.z65z a1 [10] (fun r2 r3=>(g.z56z r2 [10] (fun r4=>k0 r4 r3)))))
noncomputable def yety [Fuel]:C_kit_Lines:=⟨NN,@z65z _,@z56z _⟩
noncomputable def kit_Lines [Fuel]:yjby:=@yhCy yety
def yfUy (g:yjby):Spec A:=fun args=>match args with | [.d (.str a1)]=>fun k=>g a1 (fun z0 z1=>k (.tup [.arr 9 z0,.d (.bool z1)]) [.undef]) | _=>fun _=>none
noncomputable def yEXy:Code:=(Tryz.f60.body).getD .skip
noncomputable def yxBy (g:C_kit_Lines):Env A:=mkE [(125,yn6y g.z65z),(126,yhWy g.z56z)] [(14,[0])] [] [] [] [] [] [] [] []
theorem yvfy (g:C_kit_Lines):Same (yfUy (@yhCy g)) (abody (yxBy g) Tryz.f60 yEXy 1 [] [.arr 9,.asis] g.N):=by intro args;unfold yfUy;split;exact .inr fun R k=>(by kernel_rfl);exact .inl fun R k=>rfl
theorem yl4y [Fuel]:Ok 60 (yfUy (@kit_Lines _)):=yacy std (.cons yF8y (.cons yoey .nil)) ⟨rfl,rfl,by kernel_rfl,rfl,rfl,rfl⟩ (yvfy yety) (cuts0 (fun _=>rfl) (by kernel_rfl)) Tryz.func60 (by kernel_rfl) (by kernel_rfl)
abbrev yi9y:Type 1:=List UInt8→{R:Type}→(List (List UInt8)→Bool→Option R)→Option R
structure C_kit_Words where
 N:Nat
 z56z:ymby
def yciy (g:C_kit_Words):Nat→Int→Int→List (List UInt8)→{R:Type}→(Bool→List (List UInt8)→Option R)→(List (List UInt8)→Option R)→Option R
 | 0,_,_,_,_,_,_=>none
 | n + 1,v3,v4,v5,_,e0,e1=>(bif (decide (v4 < v3)) then (inr v5 v4 (at_ v5 v4 fun x7=>(bif (x7 == []) then e0 false v5 else yciy g n v3 (w64 (v4 + 1)) v5 e0 e1))) else e1 v5)
def yqly (g:C_kit_Words) (a1:List UInt8) {R:Type} (k0:List (List UInt8)→Bool→Option R):Option R :=
 (g.z56z a1 [32] (fun r2=>(yciy g g.N (r2.length:Int) 0 r2 (fun e8 e9=>k0 [] e8) (fun e10=>k0 e10 true))))
noncomputable def ybVy [Fuel]:C_kit_Words:=⟨NN,@z56z _⟩
noncomputable def kit_Words [Fuel]:yi9y:=@yqly ybVy
def yfTy (g:yi9y):Spec A:=fun args=>match args with | [.d (.str a1)]=>fun k=>g a1 (fun z0 z1=>k (.tup [.arr 9 z0,.d (.bool z1)]) [.undef]) | _=>fun _=>none
def yfHy:SSt:=mkSh 19 1 [(4,.own 9 0),(9,.own 9 0),(10,.int .i64),(11,.int .i64)] [(0,.row 9)]
def ycwy (g:C_kit_Words) (n:Nat):LPT A:=fun ps=>match ps with | [.d (.int .i64 p1),.d (.int .i64 p2),.d (.sl 9 p3)]=>fun K=>yciy g n p1 p2 p3 (fun z0 z1=>K .ret (mkSt 19 1 [(2,.d .nsl),(3,.d (.bool z0)),(4,.own 9 0)] [(0,some (.row 9 z1))])) (fun z0=>K (.exit 0) (mkSt 19 1 [(4,.own 9 0)] [(0,some (.row 9 z0))])) | _=>fun _=>none
noncomputable def yxRy:Code:=(Tryz.f61.body).getD .skip
noncomputable def ygwy (g:C_kit_Words):Env A:=mkE [(126,yhWy g.z56z)] [(8,[0])] [(3,⟨[4,9,10,11],[],[0],[],[],[],[]⟩)] [(3,⟨[2,3,4],[],[0],[],[],[],[]⟩)] [(3,yajy yfHy (ycwy g g.N))] [] [] [] [] []
theorem ytIy [Fuel]:yahy (ygwy ybVy).C:=ct_of (P:=Tryz.prog) (T:=T) (.cons yoey .nil) (by kernel_rfl)
noncomputable def yiVy:Code:=sub [1,1,0,1,0,0] yxRy
theorem yrCy (g:C_kit_Words) (n:Nat):yaCy (ygwy g) g.N yiVy yfHy (ycwy g) n:=by intro ps;unfold ycwy;split;exact .inr fun R K=>(by kernel_rfl);exact .inl fun R K=>rfl
theorem yqay [Fuel]:yaiy (ygwy ybVy) NN yiVy:=yamy yfHy (ycwy ybVy) (by kernel_rfl) ytIy (cuts0 (fun _=>rfl) (by kernel_rfl)) (fun ps R K=>by unfold ycwy;split <;> (try unfold yciy) <;> rfl) (yrCy ybVy)
theorem yuIy (g:C_kit_Words):Same (yfTy (@yqly g)) (abody (ygwy g) Tryz.f61 yxRy 1 [] [.arr 9,.asis] g.N):=by intro args;unfold yfTy;split;exact .inr fun R k=>(by kernel_rfl);exact .inl fun R k=>rfl
theorem ytEy [Fuel]:Ok 61 (yfTy (@kit_Words _)):=yacy std (.cons yoey .nil) ⟨rfl,rfl,by kernel_rfl,rfl,rfl,rfl⟩ (yuIy ybVy) (cutsL (fun _=>rfl) (.cons yqay .nil) (by kernel_rfl)) Tryz.func61 (by kernel_rfl) (by kernel_rfl)
abbrev yray:Type 1:=List UInt8→List UInt8→{R:Type}→(Bool→Option R)→Option R
def z47z_ (g:Nat) (a1 a2:List UInt8) {R:Type} (k0:Bool→Option R):Option R :=
 (bif (decide ((a1.length:Int) ≥ (a2.length:Int))) then (bif (decide (0≤(a2.length:Int))&&decide ((a2.length:Int)≤(a1.length:Int))) then k0 ((a1.take ((a2.length:Int):Int).toNat) == a2) else none) else k0 false)
noncomputable def z47z [Fuel]:yray:=@z47z_ NN
def yj0y (g:yray):Spec A:=fun args=>match args with | [.d (.str a1),.d (.str a2)]=>fun k=>g a1 a2 (fun z0=>k (.d (.bool z0)) [.undef,.undef]) | _=>fun _=>none
noncomputable def yCLy:Code:=(Tryz.f240.body).getD .skip
noncomputable def yJDy (g:Nat):Env A:=mkE [] [] [] [] [] [] [] [] [] []
theorem yGQy (g:Nat):Same (yj0y (@z47z_ g)) (abody (yJDy g) Tryz.f240 yCLy 0 [] [.asis] g):=by intro args;unfold yj0y;split;exact .inr fun R k=>(by kernel_rfl);exact .inl fun R k=>rfl
theorem yxSy [Fuel]:Ok 240 (yj0y (@z47z _)):=yacy std .nil ⟨rfl,rfl,by kernel_rfl,rfl,rfl,rfl⟩ (yGQy NN) (cuts0 (fun _=>rfl) (by kernel_rfl)) Tryz.func240 (by kernel_rfl) (by kernel_rfl)
abbrev yviy:Type 1:=List UInt8→List UInt8→{R:Type}→(List UInt8→Bool→Option R)→Option R
structure C_z51z where
 N:Nat
 z47z:yray
def z51z_ (g:C_z51z) (a1 a2:List UInt8) {R:Type} (k0:List UInt8→Bool→Option R):Option R :=
 (g.z47z a1 a2 (fun r3=>(bif (!r3) then k0 a1 false else (bif (decide (0≤(a2.length:Int))&&decide ((a2.length:Int)≤(a1.length:Int))) then k0 (a1.drop ((a2.length:Int):Int).toNat) true else none))))
noncomputable def yqHy [Fuel]:C_z51z:=⟨NN,@z47z _⟩
noncomputable def z51z [Fuel]:yviy:=@z51z_ yqHy
def ynSy (g:yviy):Spec A:=fun args=>match args with | [.d (.str a1),.d (.str a2)]=>fun k=>g a1 a2 (fun z0 z1=>k (.tup [.d (.str z0),.d (.bool z1)]) [.undef,.undef]) | _=>fun _=>none
noncomputable def yDZy:Code:=(Tryz.f251.body).getD .skip
noncomputable def yI5y (g:C_z51z):Env A:=mkE [(240,yj0y g.z47z)] [] [] [] [] [] [] [] [] []
theorem yFIy (g:C_z51z):Same (ynSy (@z51z_ g)) (abody (yI5y g) Tryz.f251 yDZy 0 [] [.asis,.asis] g.N):=by intro args;unfold ynSy;split;exact .inr fun R k=>(by kernel_rfl);exact .inl fun R k=>rfl
theorem yGTy [Fuel]:Ok 251 (ynSy (@z51z _)):=yacy std (.cons yxSy .nil) ⟨rfl,rfl,by kernel_rfl,rfl,rfl,rfl⟩ (yFIy yqHy) (cuts0 (fun _=>rfl) (by kernel_rfl)) Tryz.func251 (by kernel_rfl) (by kernel_rfl)
abbrev yvLy:Type 1:=List UInt8→List UInt8→{R:Type}→(List UInt8→Bool→Option R)→Option R
structure C_z62z where
 N:Nat
 z51z:yviy
def z62z_ (g:C_z62z) (a1 a2:List UInt8) {R:Type} (k0:List UInt8→Bool→Option R):Option R :=
 (g.z51z a1 a2 (fun r3 r4=>k0 r3 r4))
noncomputable def yAWy [Fuel]:C_z62z:=⟨NN,@z51z _⟩
noncomputable def z62z [Fuel]:yvLy:=@z62z_ yAWy
def ynVy (g:yvLy):Spec A:=fun args=>match args with | [.d (.str a1),.d (.str a2)]=>fun k=>g a1 a2 (fun z0 z1=>k (.tup [.d (.str z0),.d (.bool z1)]) [.undef,.undef]) | _=>fun _=>none
noncomputable def yDxy:Code:=(Tryz.f195.body).getD .skip
noncomputable def yJty (g:C_z62z):Env A:=mkE [(251,ynSy g.z51z)] [] [] [] [] [] [] [] [] []
theorem yHzy (g:C_z62z):Same (ynVy (@z62z_ g)) (abody (yJty g) Tryz.f195 yDxy 0 [] [.asis,.asis] g.N):=by intro args;unfold ynVy;split;exact .inr fun R k=>(by kernel_rfl);exact .inl fun R k=>rfl
theorem yFwy [Fuel]:Ok 195 (ynVy (@z62z _)):=yacy std (.cons yGTy .nil) ⟨rfl,rfl,by kernel_rfl,rfl,rfl,rfl⟩ (yHzy yAWy) (cuts0 (fun _=>rfl) (by kernel_rfl)) Tryz.func195 (by kernel_rfl) (by kernel_rfl)
abbrev yd2y:Type 1:=List UInt8→{R:Type}→(Int→Option R)→Option R
def strconv_Atoi [Fuel]:yd2y:=@yqBy
def yfcy (g:yd2y):Spec A:=yh4y g
theorem yiGy [Fuel]:Ok 144 (yfcy (@strconv_Atoi _)):=⟨yrLy (yAgy rfl (fun s n w h0 h1=>(Any.strconv_Atoi Tryz.lays172 s n h0 h1 w).mono (fun e w h=>⟨h.1,_,h.2⟩))),yuYy,enters_of (fn:=Tryz.f144) Tryz.func144 (by kernel_rfl) (by kernel_rfl)⟩
abbrev yfwy:Type 1:=List UInt8→Int→{R:Type}→(Int→Bool→Option R)→Option R
structure C_kit_Number where
 N:Nat
 strconv_Atoi:yd2y
 strings_Trim:ycKy
 z62z:yvLy
def ygCy (g:C_kit_Number) (a1:List UInt8) (a2:Int) {R:Type} (k0:Int→Bool→Option R):Option R :=
 (g.z62z a1 [45] (fun r3 r4=>(bif (r3 == []) then k0 0 false else (bif (decide ((r3.length:Int) > a2)) then k0 0 false else (g.strings_Trim r3 [48,49,50,51,52,53,54,55,56,57] (fun r5=>(bif (!(r5 == [])) then k0 0 false else (at_ r3 0 fun x6=>(bif ((x6.toNat:Int) == 48) then (bif (decide ((r3.length:Int) > 1)) then k0 0 false else (bif r4 then k0 0 false else (g.strconv_Atoi r3 (fun r7=>(bif r4 then k0 (w64 (0 - r7)) true else k0 r7 true))))) else (g.strconv_Atoi r3 (fun r8=>(bif r4 then k0 (w64 (0 - r8)) true else k0 r8 true))))))))))))
noncomputable def ycWy [Fuel]:C_kit_Number:=⟨NN,@strconv_Atoi _,@strings_Trim _,@z62z _⟩
noncomputable def kit_Number [Fuel]:yfwy:=@ygCy ycWy
def ydky (g:yfwy):Spec A:=fun args=>match args with | [.d (.str a1),.d (.int .i64 a2)]=>fun k=>g a1 a2 (fun z0 z1=>k (.tup [.d (.int .i64 z0),.d (.bool z1)]) [.undef,.undef]) | _=>fun _=>none
noncomputable def yDwy:Code:=(Tryz.f151.body).getD .skip
noncomputable def yu9y (g:C_kit_Number):Env A:=mkE [(144,yfcy g.strconv_Atoi),(179,ydzy g.strings_Trim),(195,ynVy g.z62z)] [] [] [] [] [] [] [] [] []
theorem ysMy (g:C_kit_Number):Same (ydky (@ygCy g)) (abody (yu9y g) Tryz.f151 yDwy 0 [] [.asis,.asis] g.N):=by intro args;unfold ydky;split;exact .inr fun R k=>(by kernel_rfl);exact .inl fun R k=>rfl
theorem yhey [Fuel]:Ok 151 (ydky (@kit_Number _)):=yacy std (.cons yiGy (.cons yfxy (.cons yFwy .nil))) ⟨rfl,rfl,by kernel_rfl,rfl,rfl,rfl⟩ (ysMy ycWy) (cuts0 (fun _=>rfl) (by kernel_rfl)) Tryz.func151 (by kernel_rfl) (by kernel_rfl)
abbrev yppy:Type 1:=List (List UInt8)→{R:Type}→(List Int→Bool→Option R)→Option R
structure C_z37z where
 N:Nat
 kit_Number:yfwy
def z37z_L3 (g:C_z37z):Nat→List (List UInt8)→Int→Int→List Int→{R:Type}→(Bool→List Int→Option R)→(List Int→Option R)→Option R
 | 0,_,_,_,_,_,_,_=>none
 | n + 1,v2,v3,v4,v5,_,e0,e1=>(bif (decide (v4 < v3)) then (get_ v2 v4 fun x9=>(g.kit_Number x9 15 (fun r10 r11=>(bif (!r11) then e0 false v5 else (bif (decide ((v5.length + [r10].length) * 8≤yaey)) then z37z_L3 g n v2 v3 (w64 (v4 + 1)) (v5++[r10]) e0 e1 else none))))) else e1 v5)
def z37z_ (g:C_z37z) (a1:List (List UInt8)) {R:Type} (k0:List Int→Bool→Option R):Option R :=
 (z37z_L3 g g.N a1 (a1.length:Int) 0 [] (fun e12 e13=>k0 [] e12) (fun e14=>k0 e14 true))
noncomputable def yg8y [Fuel]:C_z37z:=⟨NN,@kit_Number _⟩
noncomputable def z37z [Fuel]:yppy:=@z37z_ yg8y
def ykly (g:yppy):Spec A:=fun args=>match args with | [.d (.sl 9 a1)]=>fun k=>g a1 (fun z0 z1=>k (.tup [.arr 3 z0,.d (.bool z1)]) [.undef]) | _=>fun _=>none
def ykpy:SSt:=mkSh 28 3 [(4,.own 3 0),(9,.sl 9),(10,.int .i64),(11,.int .i64)] [(0,.row 3)]
def yfEy (g:C_z37z) (n:Nat):LPT A:=fun ps=>match ps with | [.d (.sl 9 p1),.d (.int .i64 p2),.d (.int .i64 p3),.d (.sl 3 p4)]=>fun K=>z37z_L3 g n p1 p2 p3 p4 (fun z0 z1=>K .ret (mkSt 28 3 [(2,.d .nsl),(3,.d (.bool z0)),(4,.own 3 0)] [(0,some (.row 3 z1))])) (fun z0=>K (.exit 0) (mkSt 28 3 [(4,.own 3 0)] [(0,some (.row 3 z0))])) | _=>fun _=>none
noncomputable def yvKy:Code:=(Tryz.f100.body).getD .skip
noncomputable def ypsy (g:C_z37z):Env A:=mkE [(151,ydky g.kit_Number)] [(24,[1]),(25,[2])] [(3,⟨[4,9,10,11],[(4,3,0)],[],[],[],[],[]⟩)] [(3,⟨[2,3,4],[],[0],[],[],[],[]⟩)] [(3,yajy ykpy (yfEy g g.N))] [] [] [] [] []
theorem yGey [Fuel]:yahy (ypsy yg8y).C:=ct_of (P:=Tryz.prog) (T:=T) (.cons yhey .nil) (by kernel_rfl)
noncomputable def ypry:Code:=sub [1,1,0,1,0,0] yvKy
theorem yA4y (g:C_z37z) (n:Nat):yaCy (ypsy g) g.N ypry ykpy (yfEy g) n:=by intro ps;unfold yfEy;split;exact .inr fun R K=>(by kernel_rfl);exact .inl fun R K=>rfl
theorem yz9y [Fuel]:yaiy (ypsy yg8y) NN ypry:=yamy ykpy (yfEy yg8y) (by kernel_rfl) yGey (cuts0 (fun _=>rfl) (by kernel_rfl)) (fun ps R K=>by unfold yfEy;split <;> (try unfold z37z_L3) <;> rfl) (yA4y yg8y)
theorem yE4y (g:C_z37z):Same (ykly (@z37z_ g)) (abody (ypsy g) Tryz.f100 yvKy 3 [] [.arr 3,.asis] g.N):=by intro args;unfold ykly;split;exact .inr fun R k=>(by kernel_rfl);exact .inl fun R k=>rfl
theorem yyRy [Fuel]:Ok 100 (ykly (@z37z _)):=yacy std (.cons yhey .nil) ⟨rfl,rfl,by kernel_rfl,rfl,rfl,rfl⟩ (yE4y yg8y) (cutsL (fun _=>rfl) (.cons yz9y .nil) (by kernel_rfl)) Tryz.func100 (by kernel_rfl) (by kernel_rfl)
abbrev yj7y:Type 1:=List (List UInt8)→List UInt8→{R:Type}→(Int→Option R)→Option R
def z14z_L2 (g:Nat):Nat→List (List UInt8)→List UInt8→Int→Int→{R:Type}→(Int→Option R)→Option R→Option R
 | 0,_,_,_,_,_,_,_=>none
 | n + 1,v3,v4,v5,v6,_,e0,e1=>(bif (decide (v6 < v5)) then (get_ v3 v6 fun x8=>(bif (v4 == x8) then e0 v6 else z14z_L2 g n v3 v4 v5 (w64 (v6 + 1)) e0 e1)) else e1)
def z14z_ (g:Nat) (a1:List (List UInt8)) (a2:List UInt8) {R:Type} (k0:Int→Option R):Option R :=
 (z14z_L2 g g a1 a2 (a1.length:Int) 0 (fun e9=>k0 e9) (k0 (-1)))
noncomputable def z14z [Fuel]:yj7y:=@z14z_ NN
def ygmy (g:yj7y):Spec A:=fun args=>match args with | [.d (.sl 9 a1),.d (.str a2)]=>fun k=>g a1 a2 (fun z0=>k (.d (.int .i64 z0)) [.undef,.undef]) | _=>fun _=>none
def ylgy:SSt:=mkSh 19 0 [(0,.sl 9),(1,.str),(7,.int .i64),(8,.int .i64)] []
def yfWy (g:Nat) (n:Nat):LPT A:=fun ps=>match ps with | [.d (.sl 9 p1),.d (.str p2),.d (.int .i64 p3),.d (.int .i64 p4)]=>fun K=>z14z_L2 g n p1 p2 p3 p4 (fun z0=>K .ret (mkSt 19 0 [(4,.d (.int .i64 z0))] [])) (K (.exit 0) (mkSt 19 0 [] [])) | _=>fun _=>none
noncomputable def yx0y:Code:=(Tryz.f92.body).getD .skip
noncomputable def ypzy (g:Nat):Env A:=mkE [] [] [(2,⟨[0,1,7,8],[],[],[],[],[],[]⟩)] [(2,⟨[4],[],[],[],[],[],[]⟩)] [(2,yajy ylgy (yfWy g g))] [] [] [] [] []
theorem yHBy [Fuel]:yahy (ypzy NN).C:=ct_of (P:=Tryz.prog) (T:=T) .nil (by kernel_rfl)
noncomputable def yqiy:Code:=sub [1,0,1,0,0] yx0y
theorem yBzy (g:Nat) (n:Nat):yaCy (ypzy g) g yqiy ylgy (yfWy g) n:=by intro ps;unfold yfWy;split;exact .inr fun R K=>(by kernel_rfl);exact .inl fun R K=>rfl
theorem yAky [Fuel]:yaiy (ypzy NN) NN yqiy:=yamy ylgy (yfWy NN) (by kernel_rfl) yHBy (cuts0 (fun _=>rfl) (by kernel_rfl)) (fun ps R K=>by unfold yfWy;split <;> (try unfold z14z_L2) <;> rfl) (yBzy NN)
theorem yFSy (g:Nat):Same (ygmy (@z14z_ g)) (abody (ypzy g) Tryz.f92 yx0y 0 [] [.asis] g):=by intro args;unfold ygmy;split;exact .inr fun R k=>(by kernel_rfl);exact .inl fun R k=>rfl
theorem ynWy [Fuel]:Ok 92 (ygmy (@z14z _)):=yacy std .nil ⟨rfl,rfl,by kernel_rfl,rfl,rfl,rfl⟩ (yFSy NN) (cutsL (fun _=>rfl) (.cons yAky .nil) (by kernel_rfl)) Tryz.func92 (by kernel_rfl) (by kernel_rfl)
abbrev yixy:Type 1:=List UInt8→{R:Type}→(List UInt8→Option R)→Option R
def ygMy (g:Nat) (a1:List UInt8) {R:Type} (k0:List UInt8→Option R):Option R :=
 (bif (a1 == [45]) then k0 [] else k0 a1)
noncomputable def kit_Undash [Fuel]:yixy:=@ygMy NN
def yeLy (g:yixy):Spec A:=fun args=>match args with | [.d (.str a1)]=>fun k=>g a1 (fun z0=>k (.d (.str z0)) [.undef]) | _=>fun _=>none
noncomputable def yCTy:Code:=(Tryz.f127.body).getD .skip
noncomputable def yuZy (g:Nat):Env A:=mkE [] [] [] [] [] [] [] [] [] []
theorem ysUy (g:Nat):Same (yeLy (@ygMy g)) (abody (yuZy g) Tryz.f127 yCTy 0 [] [.asis] g):=by intro args;unfold yeLy;split;exact .inr fun R k=>(by kernel_rfl);exact .inl fun R k=>rfl
theorem ysJy [Fuel]:Ok 127 (yeLy (@kit_Undash _)):=yacy std .nil ⟨rfl,rfl,by kernel_rfl,rfl,rfl,rfl⟩ (ysUy NN) (cuts0 (fun _=>rfl) (by kernel_rfl)) Tryz.func127 (by kernel_rfl) (by kernel_rfl)
abbrev yufy:Type 1:=List (List UInt8)→{R:Type}→(G_Contact→Bool→Option R)→Option R
structure C_z61z where
 N:Nat
 z79z:yq6y
 z14z:yj7y
 z37z:yppy
 kit_Undash:yixy
def z61z_ (g:C_z61z) (a1:List (List UInt8)) {R:Type} (k0:G_Contact→Bool→Option R):Option R :=
 (bif ((a1.length:Int) != 8) then k0 (⟨0,0,[],[],0,0,[],[]⟩:G_Contact) false else (at_ a1 1 fun x2=>(g.z79z (fun r3=>(g.z14z r3 x2 (fun r4=>(at_ a1 0 fun x5=>(at_ a1 4 fun x6=>(at_ a1 6 fun x7=>(g.z37z [x5,x6,x7] (fun r8 r9=>(bif (!r9) then k0 (⟨0,0,[],[],0,0,[],[]⟩:G_Contact) false else (bif (decide (r4 < 1)) then k0 (⟨0,0,[],[],0,0,[],[]⟩:G_Contact) false else (inr r8 0 (at_ r8 0 fun x10=>(at_ a1 2 fun x11=>(at_ a1 3 fun x12=>(inr r8 1 (at_ r8 1 fun x13=>(at_ a1 5 fun x14=>(inr r8 2 (at_ r8 2 fun x15=>(at_ a1 7 fun x16=>(g.kit_Undash x14 (fun r17=>(g.kit_Undash x16 (fun r18=>k0 (⟨x10,r4,x11,x12,x13,x15,r17,r18⟩:G_Contact) true)))))))))))))))))))))))))))
noncomputable def ydQy [Fuel]:C_z61z:=⟨NN,@z79z _,@z14z _,@z37z _,@kit_Undash _⟩
noncomputable def z61z [Fuel]:yufy:=@z61z_ ydQy
def yn2y (g:yufy):Spec A:=fun args=>match args with | [.d (.sl 9 a1)]=>fun k=>g a1 (fun z0 z1=>k (.tup [.agg [.d (.int .i64 z0.f_At),.d (.int .i64 z0.f_Mode),.d (.str z0.f_Band),.d (.str z0.f_Call),.d (.int .i64 z0.f_Sent),.d (.int .i64 z0.f_Heard),.d (.str z0.f_Gave),.d (.str z0.f_Got)],.d (.bool z1)]) [.undef]) | _=>fun _=>none
noncomputable def yFVy:Code:=(Tryz.f62.body).getD .skip
noncomputable def yIvy (g:C_z61z):Env A:=mkE [(81,yjXy g.z79z),(92,ygmy g.z14z),(100,ykly g.z37z),(127,yeLy g.kit_Undash)] [(2,[0]),(11,[1]),(26,[2]),(27,[3])] [] [] [] [] [] [] [] []
theorem yEVy (g:C_z61z):Same (yn2y (@z61z_ g)) (abody (yIvy g) Tryz.f62 yFVy 4 [] [.asis,.asis] g.N):=by intro args;unfold yn2y;split;exact .inr fun R k=>(by kernel_rfl);exact .inl fun R k=>rfl
theorem yE3y [Fuel]:Ok 62 (yn2y (@z61z _)):=yacy std (.cons yxLy (.cons ynWy (.cons yyRy (.cons ysJy .nil)))) ⟨rfl,rfl,by kernel_rfl,rfl,rfl,rfl⟩ (yEVy ydQy) (cuts0 (fun _=>rfl) (by kernel_rfl)) Tryz.func62 (by kernel_rfl) (by kernel_rfl)
abbrev ytwy:Type 1:=List UInt8→{R:Type}→(G_Deed→Bool→Option R)→Option R
structure C_z46z where
 N:Nat
 kit_Words:yi9y
 z61z:yufy
 z14z:yj7y
 z37z:yppy
 kit_Number:yfwy
 z78z:yp9y
def z46z_ (g:C_z46z) (a1:List UInt8) {R:Type} (k0:G_Deed→Bool→Option R):Option R :=
 (g.kit_Words a1 (fun r2 r3=>(bif (!r3) then k0 (⟨[],0,0,0,(⟨0,0,[],[],0,0,[],[]⟩:G_Contact),[],[],0⟩:G_Deed) false else (bif (decide ((r2.length:Int)≤4)) then k0 (⟨[],0,0,0,(⟨0,0,[],[],0,0,[],[]⟩:G_Contact),[],[],0⟩:G_Deed) false else (bif (decide (0≤1)&&(decide (1≤3)&&decide (3≤(r2.length:Int)))) then (g.z37z ((r2.take (3:Int).toNat).drop (1:Int).toNat) (fun r4 r5=>(bif (!r5) then k0 (⟨[],0,0,0,(⟨0,0,[],[],0,0,[],[]⟩:G_Contact),[],[],0⟩:G_Deed) false else (inr r2 0 (at_ r2 0 fun x6=>(inr r4 0 (at_ r4 0 fun x7=>(inr r4 1 (at_ r4 1 fun x8=>(inr r2 3 (at_ r2 3 fun x9=>(g.z78z (fun r10=>(g.z14z r10 x9 (fun r11=>(bif (decide (0≤4)&&decide (4≤(r2.length:Int))) then (bif (r11 == 1) then (g.z61z (r2.drop (4:Int).toNat) (fun r12 r13=>k0 (⟨x6,x7,x8,r11,r12,[],[],0⟩:G_Deed) r13)) else (bif (r11 == 2) then (bif (((r2.drop (4:Int).toNat).length:Int) == 1) then (at_ (r2.drop (4:Int).toNat) 0 fun x14=>k0 (⟨x6,x7,x8,r11,(⟨0,0,[],[],0,0,[],[]⟩:G_Contact),x14,[],0⟩:G_Deed) r5) else (bif (r11 == 3) then (bif (((r2.drop (4:Int).toNat).length:Int) == 1) then (at_ (r2.drop (4:Int).toNat) 0 fun x15=>(g.kit_Number x15 15 (fun r16 r17=>k0 (⟨x6,x7,x8,r11,(⟨0,0,[],[],r16,0,[],[]⟩:G_Contact),[],[],0⟩:G_Deed) r17))) else (bif (r11 == 5) then (bif (((r2.drop (4:Int).toNat).length:Int) == 2) then (at_ (r2.drop (4:Int).toNat) 0 fun x18=>(at_ (r2.drop (4:Int).toNat) 1 fun x19=>(g.kit_Number x19 15 (fun r20 r21=>k0 (⟨x6,x7,x8,r11,(⟨0,0,[],[],0,0,[],[]⟩:G_Contact),[],x18,r20⟩:G_Deed) r21)))) else k0 (⟨[],0,0,0,(⟨0,0,[],[],0,0,[],[]⟩:G_Contact),[],[],0⟩:G_Deed) false) else k0 (⟨[],0,0,0,(⟨0,0,[],[],0,0,[],[]⟩:G_Contact),[],[],0⟩:G_Deed) false)) else (bif (r11 == 4) then (bif (((r2.drop (4:Int).toNat).length:Int) == 1) then (at_ (r2.drop (4:Int).toNat) 0 fun x22=>(g.kit_Number x22 15 (fun r23 r24=>k0 (⟨x6,x7,x8,r11,(⟨0,0,[],[],r23,0,[],[]⟩:G_Contact),[],[],0⟩:G_Deed) r24))) else (bif (r11 == 5) then (bif (((r2.drop (4:Int).toNat).length:Int) == 2) then (at_ (r2.drop (4:Int).toNat) 0 fun x25=>(at_ (r2.drop (4:Int).toNat) 1 fun x26=>(g.kit_Number x26 15 (fun r27 r28=>k0 (⟨x6,x7,x8,r11,(⟨0,0,[],[],0,0,[],[]⟩:G_Contact),[],x25,r27⟩:G_Deed) r28)))) else k0 (⟨[],0,0,0,(⟨0,0,[],[],0,0,[],[]⟩:G_Contact),[],[],0⟩:G_Deed) false) else k0 (⟨[],0,0,0,(⟨0,0,[],[],0,0,[],[]⟩:G_Contact),[],[],0⟩:G_Deed) false)) else (bif (r11 == 5) then (bif (((r2.drop (4:Int).toNat).length:Int) == 2) then (at_ (r2.drop (4:Int).toNat) 0 fun x29=>(at_ (r2.drop (4:Int).toNat) 1 fun x30=>(g.kit_Number x30 15 (fun r31 r32=>k0 (⟨x6,x7,x8,r11,(⟨0,0,[],[],0,0,[],[]⟩:G_Contact),[],x29,r31⟩:G_Deed) r32)))) else k0 (⟨[],0,0,0,(⟨0,0,[],[],0,0,[],[]⟩:G_Contact),[],[],0⟩:G_Deed) false) else k0 (⟨[],0,0,0,(⟨0,0,[],[],0,0,[],[]⟩:G_Contact),[],[],0⟩:G_Deed) false)))) else (bif (r11 == 3) then (bif (((r2.drop (4:Int).toNat).length:Int) == 1) then (at_ (r2.drop (4:Int).toNat) 0 fun x33=>(g.kit_Number x33 15 (fun r34 r35=>k0 (⟨x6,x7,x8,r11,(⟨0,0,[],[],r34,0,[],[]⟩:G_Contact),[],[],0⟩:G_Deed) r35))) else (bif (r11 == 5) then (bif (((r2.drop (4:Int).toNat).length:Int) == 2) then (at_ (r2.drop (4:Int).toNat) 0 fun x36=>(at_ (r2.drop (4:Int).toNat) 1 fun x37=>(g.kit_Number x37 15 (fun r38 r39=>k0 (⟨x6,x7,x8,r11,(⟨0,0,[],[],0,0,[],[]⟩:G_Contact),[],x36,r38⟩:G_Deed) r39)))) else k0 (⟨[],0,0,0,(⟨0,0,[],[],0,0,[],[]⟩:G_Contact),[],[],0⟩:G_Deed) false) else k0 (⟨[],0,0,0,(⟨0,0,[],[],0,0,[],[]⟩:G_Contact),[],[],0⟩:G_Deed) false)) else (bif (r11 == 4) then (bif (((r2.drop (4:Int).toNat).length:Int) == 1) then (at_ (r2.drop (4:Int).toNat) 0 fun x40=>(g.kit_Number x40 15 (fun r41 r42=>k0 (⟨x6,x7,x8,r11,(⟨0,0,[],[],r41,0,[],[]⟩:G_Contact),[],[],0⟩:G_Deed) r42))) else (bif (r11 == 5) then (bif (((r2.drop (4:Int).toNat).length:Int) == 2) then (at_ (r2.drop (4:Int).toNat) 0 fun x43=>(at_ (r2.drop (4:Int).toNat) 1 fun x44=>(g.kit_Number x44 15 (fun r45 r46=>k0 (⟨x6,x7,x8,r11,(⟨0,0,[],[],0,0,[],[]⟩:G_Contact),[],x43,r45⟩:G_Deed) r46)))) else k0 (⟨[],0,0,0,(⟨0,0,[],[],0,0,[],[]⟩:G_Contact),[],[],0⟩:G_Deed) false) else k0 (⟨[],0,0,0,(⟨0,0,[],[],0,0,[],[]⟩:G_Contact),[],[],0⟩:G_Deed) false)) else (bif (r11 == 5) then (bif (((r2.drop (4:Int).toNat).length:Int) == 2) then (at_ (r2.drop (4:Int).toNat) 0 fun x47=>(at_ (r2.drop (4:Int).toNat) 1 fun x48=>(g.kit_Number x48 15 (fun r49 r50=>k0 (⟨x6,x7,x8,r11,(⟨0,0,[],[],0,0,[],[]⟩:G_Contact),[],x47,r49⟩:G_Deed) r50)))) else k0 (⟨[],0,0,0,(⟨0,0,[],[],0,0,[],[]⟩:G_Contact),[],[],0⟩:G_Deed) false) else k0 (⟨[],0,0,0,(⟨0,0,[],[],0,0,[],[]⟩:G_Contact),[],[],0⟩:G_Deed) false))))) else none)))))))))))))))) else none)))))
noncomputable def ybby [Fuel]:C_z46z:=⟨NN,@kit_Words _,@z61z _,@z14z _,@z37z _,@kit_Number _,@z78z _⟩
noncomputable def z46z [Fuel]:ytwy:=@z46z_ ybby
def yniy (g:ytwy):Spec A:=fun args=>match args with | [.d (.str a1)]=>fun k=>g a1 (fun z0 z1=>k (.tup [.agg [.d (.str z0.f_Site),.d (.int .i64 z0.f_No),.d (.int .i64 z0.f_At),.d (.int .i64 z0.f_Kind),.d (.int .i64 z0.f_Contact.f_At),.d (.int .i64 z0.f_Contact.f_Mode),.d (.str z0.f_Contact.f_Band),.d (.str z0.f_Contact.f_Call),.d (.int .i64 z0.f_Contact.f_Sent),.d (.int .i64 z0.f_Contact.f_Heard),.d (.str z0.f_Contact.f_Gave),.d (.str z0.f_Contact.f_Got),.d (.str z0.f_Band),.d (.str z0.f_Of),.d (.int .i64 z0.f_Other)],.d (.bool z1)]) [.undef]) | _=>fun _=>none
noncomputable def yD4y:Code:=(Tryz.f113.body).getD .skip
noncomputable def yImy (g:C_z46z):Env A:=mkE [(61,yfTy g.kit_Words),(62,yn2y g.z61z),(92,ygmy g.z14z),(100,ykly g.z37z),(151,ydky g.kit_Number),(160,yjPy g.z78z)] [(2,[0]),(7,[3]),(11,[1]),(25,[2]),(40,[4])] [] [] [] [] [] [] [] []
theorem yF6y (g:C_z46z):Same (yniy (@z46z_ g)) (abody (yImy g) Tryz.f113 yD4y 5 [] [.asis,.asis] g.N):=by intro args;unfold yniy;split;exact .inr fun R k=>(by kernel_rfl);exact .inl fun R k=>rfl
theorem yyTy [Fuel]:Ok 113 (yniy (@z46z _)):=yacy std (.cons ytEy (.cons yE3y (.cons ynWy (.cons yyRy (.cons yhey (.cons yywy .nil)))))) ⟨rfl,rfl,by kernel_rfl,rfl,rfl,rfl⟩ (yF6y ybby) (cuts0 (fun _=>rfl) (by kernel_rfl)) Tryz.func113 (by kernel_rfl) (by kernel_rfl)
abbrev ykvy:Type 1:=List UInt8→{R:Type}→(List G_Deed→Int→Int→Option R)→Option R
structure C_net_Read where
 N:Nat
 kit_Lines:yjby
 z7z:T_z7z
 z46z:ytwy
def ycey (g:C_net_Read):Nat→Bool→Int→Int→List (List UInt8)→List G_Deed→{R:Type}→(Int→Int→List G_Deed→Option R)→(List G_Deed→Option R)→Option R
 | 0,_,_,_,_,_,_,_,_=>none
 | n + 1,v4,v5,v6,v7,v8,_,e0,e1=>(bif (decide (v6 < v5)) then (inr v7 v6 (at_ v7 v6 fun x12=>(g.z46z x12 (fun r13 r14=>(bif (!r14) then e0 v6 9 v8 else (bif (!v4) then (bif (v6 == (w64 ((v7.length:Int) - 1))) then e0 v6 9 v8 else (bif (decide ((v8.length + [r13].length) * 176≤yaey)) then ycey g n v4 v5 (w64 (v6 + 1)) v7 (v8++[r13]) e0 e1 else none)) else (bif (decide ((v8.length + [r13].length) * 176≤yaey)) then ycey g n v4 v5 (w64 (v6 + 1)) v7 (v8++[r13]) e0 e1 else none))))))) else e1 v8)
def yiOy (g:C_net_Read) (a1:List UInt8) {R:Type} (k0:List G_Deed→Int→Int→Option R):Option R :=
 (bif (decide ((a1.length:Int) > 200000)) then k0 [] 0 2 else (g.kit_Lines a1 (fun r2 r3=>(ycey g g.N r3 (r2.length:Int) 0 r2 [] (fun e15 e16 e17=>k0 [] e15 e16) (fun e18=>(g.z7z e18 (fun r19=>(bif (r19 != 0) then k0 [] 0 r19 else k0 e18 0 0))))))))
noncomputable def ybxy [Fuel]:C_net_Read:=⟨NN,@kit_Lines _,@z7z _,@z46z _⟩
noncomputable def net_Read [Fuel]:ykvy:=@yiOy ybxy
def ygGy (g:ykvy):Spec A:=fun args=>match args with | [.d (.str a1)]=>fun k=>g a1 (fun z0 z1 z2=>k (.tup [.arr 71 z0,.d (.int .i64 z1),.d (.int .i64 z2)]) [.undef]) | _=>fun _=>none
def ygqy:SSt:=mkSh 58 5 [(5,.own 9 0),(6,.bool),(7,.own 71 1),(21,.own 9 0),(22,.int .i64),(23,.int .i64)] [(0,.row 9),(1,.row 71)]
def ycUy (g:C_net_Read) (n:Nat):LPT A:=fun ps=>match ps with | [.d (.bool p1),.d (.int .i64 p2),.d (.int .i64 p3),.d (.sl 9 p4),.d (.sl 71 p5)]=>fun K=>ycey g n p1 p2 p3 p4 p5 (fun z0 z1 z2=>K .ret (mkSt 58 5 [(2,.d .nsl),(3,.d (.int .i64 z0)),(4,.d (.int .i64 z1)),(7,.own 71 1)] [(1,some (.row 71 z2))])) (fun z0=>K (.exit 0) (mkSt 58 5 [(7,.own 71 1)] [(1,some (.row 71 z0))])) | _=>fun _=>none
noncomputable def yyJy:Code:=(Tryz.f40.body).getD .skip
noncomputable def yhsy (g:C_net_Read):Env A:=mkE [(60,yfUy g.kit_Lines),(107,yjAy g.z7z),(113,yniy g.z46z)] [(10,[2]),(18,[0]),(49,[3]),(50,[4])] [(6,⟨[5,6,7,21,22,23],[(7,71,1)],[0],[],[],[],[]⟩)] [(6,⟨[2,3,4,7],[],[1],[],[],[],[]⟩)] [(6,yajy ygqy (ycUy g g.N))] [] [] [] [] []
theorem yxcy [Fuel]:yahy (yhsy ybxy).C:=ct_of (P:=Tryz.prog) (T:=T) (.cons yl4y (.cons yl6y (.cons yyTy .nil))) (by kernel_rfl)
noncomputable def yjSy:Code:=sub [1,1,1,1,0,1,0,0] yyJy
theorem ysSy (g:C_net_Read) (n:Nat):yaCy (yhsy g) g.N yjSy ygqy (ycUy g) n:=by intro ps;unfold ycUy;split;exact .inr fun R K=>(by kernel_rfl);exact .inl fun R K=>rfl
theorem yrPy [Fuel]:yaiy (yhsy ybxy) NN yjSy:=yamy ygqy (ycUy ybxy) (by kernel_rfl) yxcy (cuts0 (fun _=>rfl) (by kernel_rfl)) (fun ps R K=>by unfold ycUy;split <;> (try unfold ycey) <;> rfl) (ysSy ybxy)
theorem yxpy (g:C_net_Read):Same (ygGy (@yiOy g)) (abody (yhsy g) Tryz.f40 yyJy 5 [] [.arr 71,.asis,.asis] g.N):=by intro args;unfold ygGy;split;exact .inr fun R k=>(by kernel_rfl);exact .inl fun R k=>rfl
theorem yxmy [Fuel]:Ok 40 (ygGy (@net_Read _)):=yacy std (.cons yl4y (.cons yl6y (.cons yyTy .nil))) ⟨rfl,rfl,by kernel_rfl,rfl,rfl,rfl⟩ (yxpy ybxy) (cutsL (fun _=>rfl) (.cons yrPy .nil) (by kernel_rfl)) Tryz.func40 (by kernel_rfl) (by kernel_rfl)
abbrev ywjy:Type 1:=List (List UInt8)→List UInt8→{R:Type}→(Bool→Option R)→Option R
structure C_z42z where
 N:Nat
 z14z:yj7y
def z42z_ (g:C_z42z) (a1:List (List UInt8)) (a2:List UInt8) {R:Type} (k0:Bool→Option R):Option R :=
 (g.z14z a1 a2 (fun r3=>k0 (decide (r3 ≥ 0))))
noncomputable def yrgy [Fuel]:C_z42z:=⟨NN,@z14z _⟩
noncomputable def z42z [Fuel]:ywjy:=@z42z_ yrgy
def ynvy (g:ywjy):Spec A:=fun args=>match args with | [.d (.sl 9 a1),.d (.str a2)]=>fun k=>g a1 a2 (fun z0=>k (.d (.bool z0)) [.undef,.undef]) | _=>fun _=>none
noncomputable def yDNy:Code:=(Tryz.f129.body).getD .skip
noncomputable def yJyy (g:C_z42z):Env A:=mkE [(92,ygmy g.z14z)] [] [] [] [] [] [] [] [] []
theorem yFry (g:C_z42z):Same (ynvy (@z42z_ g)) (abody (yJyy g) Tryz.f129 yDNy 0 [] [.asis] g.N):=by intro args;unfold ynvy;split;exact .inr fun R k=>(by kernel_rfl);exact .inl fun R k=>rfl
theorem yHvy [Fuel]:Ok 129 (ynvy (@z42z _)):=yacy std (.cons ynWy .nil) ⟨rfl,rfl,by kernel_rfl,rfl,rfl,rfl⟩ (yFry yrgy) (cuts0 (fun _=>rfl) (by kernel_rfl)) Tryz.func129 (by kernel_rfl) (by kernel_rfl)
abbrev ymMy:Type 1:=List UInt8→{R:Type}→(List (List UInt8)→Bool→Option R)→Option R
structure C_Q_Words where
 N:Nat
 z56z:ymby
 z42z:ywjy
def ytzy (g:C_Q_Words) (a1:List UInt8) {R:Type} (k0:List (List UInt8)→Bool→Option R):Option R :=
 (g.z56z a1 [32] (fun r2=>(g.z42z r2 [] (fun r3=>k0 r2 (!r3)))))
noncomputable def ygSy [Fuel]:C_Q_Words:=⟨NN,@z56z _,@z42z _⟩
noncomputable def Q_Words [Fuel]:ymMy:=@ytzy ygSy
def yhuy (g:ymMy):Spec A:=fun args=>match args with | [.d (.str a1)]=>fun k=>g a1 (fun z0 z1=>k (.tup [.arr 9 z0,.d (.bool z1)]) [.undef]) | _=>fun _=>none
noncomputable def yHsy:Code:=(Tryz.f65.body).getD .skip
noncomputable def yBxy (g:C_Q_Words):Env A:=mkE [(126,yhWy g.z56z),(129,ynvy g.z42z)] [(6,[0])] [] [] [] [] [] [] [] []
theorem yzDy (g:C_Q_Words):Same (yhuy (@ytzy g)) (abody (yBxy g) Tryz.f65 yHsy 1 [] [.arr 9,.asis] g.N):=by intro args;unfold yhuy;split;exact .inr fun R k=>(by kernel_rfl);exact .inl fun R k=>rfl
theorem yzNy [Fuel]:Ok 65 (yhuy (@Q_Words _)):=yacy std (.cons yoey (.cons yHvy .nil)) ⟨rfl,rfl,by kernel_rfl,rfl,rfl,rfl⟩ (yzDy ygSy) (cuts0 (fun _=>rfl) (by kernel_rfl)) Tryz.func65 (by kernel_rfl) (by kernel_rfl)
abbrev yt2y:Type 1:=List UInt8→List UInt8→{R:Type}→(List UInt8→Option R)→Option R
structure C_z43z where
 N:Nat
 z47z:yray
def z43z_ (g:C_z43z) (a1 a2:List UInt8) {R:Type} (k0:List UInt8→Option R):Option R :=
 (g.z47z a1 a2 (fun r3=>(bif r3 then (bif (decide (0≤(a2.length:Int))&&decide ((a2.length:Int)≤(a1.length:Int))) then k0 (a1.drop ((a2.length:Int):Int).toNat) else none) else k0 a1)))
noncomputable def ypXy [Fuel]:C_z43z:=⟨NN,@z47z _⟩
noncomputable def z43z [Fuel]:yt2y:=@z43z_ ypXy
def ynBy (g:yt2y):Spec A:=fun args=>match args with | [.d (.str a1),.d (.str a2)]=>fun k=>g a1 a2 (fun z0=>k (.d (.str z0)) [.undef,.undef]) | _=>fun _=>none
noncomputable def yCQy:Code:=(Tryz.f186.body).getD .skip
noncomputable def yIpy (g:C_z43z):Env A:=mkE [(240,yj0y g.z47z)] [] [] [] [] [] [] [] [] []
theorem yHQy (g:C_z43z):Same (ynBy (@z43z_ g)) (abody (yIpy g) Tryz.f186 yCQy 0 [] [.asis] g.N):=by intro args;unfold ynBy;split;exact .inr fun R k=>(by kernel_rfl);exact .inl fun R k=>rfl
theorem yFsy [Fuel]:Ok 186 (ynBy (@z43z _)):=yacy std (.cons yxSy .nil) ⟨rfl,rfl,by kernel_rfl,rfl,rfl,rfl⟩ (yHQy ypXy) (cuts0 (fun _=>rfl) (by kernel_rfl)) Tryz.func186 (by kernel_rfl) (by kernel_rfl)
abbrev ytuy:Type 1:=List UInt8→List UInt8→{R:Type}→(List UInt8→Option R)→Option R
structure C_z59z where
 N:Nat
 z43z:yt2y
def z59z_ (g:C_z59z) (a1 a2:List UInt8) {R:Type} (k0:List UInt8→Option R):Option R :=
 (g.z43z a1 a2 (fun r3=>k0 r3))
noncomputable def yBuy [Fuel]:C_z59z:=⟨NN,@z43z _⟩
noncomputable def z59z [Fuel]:ytuy:=@z59z_ yBuy
def ynOy (g:ytuy):Spec A:=fun args=>match args with | [.d (.str a1),.d (.str a2)]=>fun k=>g a1 a2 (fun z0=>k (.d (.str z0)) [.undef,.undef]) | _=>fun _=>none
noncomputable def yCCy:Code:=(Tryz.f143.body).getD .skip
noncomputable def yHWy (g:C_z59z):Env A:=mkE [(186,ynBy g.z43z)] [] [] [] [] [] [] [] [] []
theorem yEKy (g:C_z59z):Same (ynOy (@z59z_ g)) (abody (yHWy g) Tryz.f143 yCCy 0 [] [.asis] g.N):=by intro args;unfold ynOy;split;exact .inr fun R k=>(by kernel_rfl);exact .inl fun R k=>rfl
theorem yFXy [Fuel]:Ok 143 (ynOy (@z59z _)):=yacy std (.cons yFsy .nil) ⟨rfl,rfl,by kernel_rfl,rfl,rfl,rfl⟩ (yEKy yBuy) (cuts0 (fun _=>rfl) (by kernel_rfl)) Tryz.func143 (by kernel_rfl) (by kernel_rfl)
end Go.Am
