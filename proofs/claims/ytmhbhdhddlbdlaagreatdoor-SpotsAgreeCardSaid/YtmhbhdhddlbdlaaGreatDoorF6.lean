/- The functions of the program as Lean functions, each shown to be what the code computes, part 6. No condition: lemmas for the claim. -/
import Derived.Test.YtmhbhdhddlbdlaaGreatDoorF0
import Derived.Test.YtmhbhdhddlbdlaaGreatDoorFSh
import Derived.Test.YtmhbhdhddlbdlaaGreatDoorF1
import Derived.Test.YtmhbhdhddlbdlaaGreatDoorF3
import Derived.Test.YtmhbhdhddlbdlaaGreatDoorF4
import Derived.Test.YtmhbhdhddlbdlaaGreatDoorF5
set_option linter.unusedVariables false
set_option maxRecDepth 100000
namespace Go.Am
open Go Go.Proofs
abbrev yhHy:Type 1:=List UInt8→Int→{R:Type}→(Int→Bool→Option R)→Option R
structure C_kit_Number where
 N:Nat
 z62z:ytTy
 strings_Trim:ycFy
 strconv_Atoi:ygcy
def ygry (g:C_kit_Number) (a1:List UInt8) (a2:Int) {R:Type} (k0:Int→Bool→Option R):Option R :=
 (g.z62z a1 [45] (fun r3 r4=>(bif (r3 == []) then k0 0 false else (bif (decide ((r3.length:Int) > a2)) then k0 0 false else (g.strings_Trim r3 [48,49,50,51,52,53,54,55,56,57] (fun r5=>(bif (!(r5 == [])) then k0 0 false else (at_ r3 0 fun x6=>(bif ((x6.toNat:Int) == 48) then (bif (decide ((r3.length:Int) > 1)) then k0 0 false else (bif r4 then k0 0 false else (g.strconv_Atoi r3 (fun r7=>(bif r4 then k0 (w64 (0 - r7)) true else k0 r7 true))))) else (g.strconv_Atoi r3 (fun r8=>(bif r4 then k0 (w64 (0 - r8)) true else k0 r8 true))))))))))))
noncomputable def ycDy [Fuel]:C_kit_Number:=⟨NN,@z62z _,@strings_Trim _,@strconv_Atoi _⟩
noncomputable def kit_Number [Fuel]:yhHy:=@ygry ycDy
def yeay (g:yhHy):Spec A:=fun args=>match args with | [.d (.str a1),.d (.int .i64 a2)]=>fun k=>g a1 a2 (fun z0 z1=>k (.tup [.d (.int .i64 z0),.d (.bool z1)]) [.undef,.undef]) | _=>fun _=>none
noncomputable def yGky:Code:=(Tryz.f76.body).getD .skip
noncomputable def yvVy (g:C_kit_Number):Env A:=mkE [(128,ynKy g.z62z),(129,ydby g.strings_Trim),(130,yiuy g.strconv_Atoi)] [] [] [] [] [] [] [] [] []
theorem ytry (g:C_kit_Number):Same (yeay (@ygry g)) (abody (yvVy g) Tryz.f76 yGky 0 [] [.asis,.asis] g.N):=by intro args; unfold yeay; split; exact .inr fun R k=>(by kernel_rfl); exact .inl fun R k=>rfl
theorem yliy [Fuel]:Ok 76 (yeay (@kit_Number _)):=yaay std (.cons yJwy (.cons ye9y (.cons yqMy .nil))) ⟨rfl,rfl,by kernel_rfl,rfl,rfl,rfl⟩ (ytry ycDy) (cuts0 (fun _=>rfl) (by kernel_rfl)) Tryz.func76 (by kernel_rfl) (by kernel_rfl)
abbrev yw1y:Type 1:=List (List UInt8)→{R:Type}→(List Int→Bool→Option R)→Option R
structure C_z48z where
 N:Nat
 kit_Number:yhHy
def z48z_L3 (g:C_z48z):Nat→List (List UInt8)→Int→Int→List Int→{R:Type}→(Bool→List Int→Option R)→(List Int→Option R)→Option R
 | 0,_,_,_,_,_,_,_=>none
 | n + 1,v2,v3,v4,v5,_,e0,e1=>(bif (decide (v4 < v3)) then (get_ v2 v4 fun x9=>(g.kit_Number x9 15 (fun r10 r11=>(bif (!r11) then e0 false v5 else (bif (decide ((v5.length + [r10].length) * 8≤yaiy)) then z48z_L3 g n v2 v3 (w64 (v4 + 1)) (v5 ++ [r10]) e0 e1 else none))))) else e1 v5)
def z48z_ (g:C_z48z) (a1:List (List UInt8)) {R:Type} (k0:List Int→Bool→Option R):Option R :=
 (z48z_L3 g g.N a1 (a1.length:Int) 0 [] (fun e12 e13=>k0 [] e12) (fun e14=>k0 e14 true))
noncomputable def ygFy [Fuel]:C_z48z:=⟨NN,@kit_Number _⟩
noncomputable def z48z [Fuel]:yw1y:=@z48z_ ygFy
def ynuy (g:yw1y):Spec A:=fun args=>match args with | [.d (.sl 9 a1)]=>fun k=>g a1 (fun z0 z1=>k (.tup [.arr 3 z0,.d (.bool z1)]) [.undef]) | _=>fun _=>none
def ykQy:SSt:=mkSh 28 3 [(4,.own 3 0),(9,.sl 9),(10,.int .i64),(11,.int .i64)] [(0,.row 3)]
def yeUy (g:C_z48z) (n:Nat):LPT A:=fun ps=>match ps with | [.d (.sl 9 p1),.d (.int .i64 p2),.d (.int .i64 p3),.d (.sl 3 p4)]=>fun K=>z48z_L3 g n p1 p2 p3 p4 (fun z0 z1=>K .ret (mkSt 28 3 [(2,.d .nsl),(3,.d (.bool z0)),(4,.own 3 0)] [(0,some (.row 3 z1))])) (fun z0=>K (.exit 0) (mkSt 28 3 [(4,.own 3 0)] [(0,some (.row 3 z0))])) | _=>fun _=>none
noncomputable def yzZy:Code:=(Tryz.f36.body).getD .skip
noncomputable def yrsy (g:C_z48z):Env A:=mkE [(76,yeay g.kit_Number)] [(24,[1]),(25,[2])] [(3,⟨[4,9,10,11],[(4,3,0)],[],[],[],[],[]⟩)] [(3,⟨[2,3,4],[],[0],[],[],[],[]⟩)] [(3,yafy ykQy (yeUy g g.N))] [] [] [] [] []
theorem yGTy [Fuel]:yagy (yrsy ygFy).C:=ct_of (P:=Tryz.prog) (T:=T) (.cons yliy .nil) (by kernel_rfl)
noncomputable def yqEy:Code:=sub [1,1,0,1,0,0] yzZy
theorem yDAy (g:C_z48z) (n:Nat):yaly (yrsy g) g.N yqEy ykQy (yeUy g) n:=by intro ps; unfold yeUy; split; exact .inr fun R K=>(by kernel_rfl); exact .inl fun R K=>rfl
theorem yAVy [Fuel]:yaey (yrsy ygFy) NN yqEy:=yahy ykQy (yeUy ygFy) (by kernel_rfl) yGTy (cuts0 (fun _=>rfl) (by kernel_rfl)) (fun ps R K=>by unfold yeUy; split <;> (try unfold z48z_L3) <;> rfl) (yDAy ygFy)
theorem yHyy (g:C_z48z):Same (ynuy (@z48z_ g)) (abody (yrsy g) Tryz.f36 yzZy 3 [] [.arr 3,.asis] g.N):=by intro args; unfold ynuy; split; exact .inr fun R k=>(by kernel_rfl); exact .inl fun R k=>rfl
theorem yyZy [Fuel]:Ok 36 (ynuy (@z48z _)):=yaay std (.cons yliy .nil) ⟨rfl,rfl,by kernel_rfl,rfl,rfl,rfl⟩ (yHyy ygFy) (cutsL (fun _=>rfl) (.cons yAVy .nil) (by kernel_rfl)) Tryz.func36 (by kernel_rfl) (by kernel_rfl)
abbrev yi0y:Type 1:=List UInt8→{R:Type}→(List G_Spot→Int→Int→Option R)→Option R
structure C_band_Read where
 N:Nat
 z10z:ylTy
 kit_Lines:yjdy
 kit_Words:yi1y
 z48z:yw1y
def ybMy (g:C_band_Read):Nat→Bool→Int→Int→List (List UInt8)→List G_Spot→{R:Type}→(Int→Int→List G_Spot→Option R)→(List G_Spot→Option R)→Option R
 | 0,_,_,_,_,_,_,_,_=>none
 | n + 1,v4,v5,v6,v7,v8,_,e0,e1=>(bif (decide (v6 < v5)) then (inr v7 v6 (at_ v7 v6 fun x24=>(g.kit_Words x24 (fun r25 r26=>(bif (!r26) then e0 v6 9 v8 else (bif ((r25.length:Int) != 4) then e0 v6 9 v8 else (bif (!v4) then (bif (v6 == (w64 ((v7.length:Int) - 1))) then e0 v6 9 v8 else (bif (decide (0≤2) && decide (2≤(r25.length:Int))) then (g.z48z (r25.take (2:Int).toNat) (fun r27 r28=>(bif (!r28) then e0 v6 9 v8 else (inr r27 0 (at_ r27 0 fun x29=>(inr r27 1 (at_ r27 1 fun x30=>(inr r25 2 (at_ r25 2 fun x31=>(inr r25 3 (at_ r25 3 fun x32=>(bif (decide ((v8.length + [(⟨x29,x30,x31,x32⟩:G_Spot)].length) * 48≤yaiy)) then ybMy g n v4 v5 (w64 (v6 + 1)) v7 (v8 ++ [(⟨x29,x30,x31,x32⟩:G_Spot)]) e0 e1 else none)))))))))))) else none)) else (bif (decide (0≤2) && decide (2≤(r25.length:Int))) then (g.z48z (r25.take (2:Int).toNat) (fun r33 r34=>(bif (!r34) then e0 v6 9 v8 else (inr r33 0 (at_ r33 0 fun x35=>(inr r33 1 (at_ r33 1 fun x36=>(inr r25 2 (at_ r25 2 fun x37=>(inr r25 3 (at_ r25 3 fun x38=>(bif (decide ((v8.length + [(⟨x35,x36,x37,x38⟩:G_Spot)].length) * 48≤yaiy)) then ybMy g n v4 v5 (w64 (v6 + 1)) v7 (v8 ++ [(⟨x35,x36,x37,x38⟩:G_Spot)]) e0 e1 else none)))))))))))) else none)))))))) else e1 v8)
def yhgy (g:C_band_Read) (a1:List UInt8) {R:Type} (k0:List G_Spot→Int→Int→Option R):Option R :=
 (bif (decide ((a1.length:Int) > 200000)) then k0 [] 0 2 else (g.kit_Lines a1 (fun r2 r3=>(ybMy g g.N r3 (r2.length:Int) 0 r2 [] (fun e39 e40 e41=>k0 [] e39 e40) (fun e42=>(g.z10z e42 (fun r43=>(bif (r43 != 0) then k0 [] 0 r43 else k0 e42 0 0))))))))
noncomputable def yaVy [Fuel]:C_band_Read:=⟨NN,@z10z _,@kit_Lines _,@kit_Words _,@z48z _⟩
noncomputable def band_Read [Fuel]:yi0y:=@yhgy yaVy
def yeRy (g:yi0y):Spec A:=fun args=>match args with | [.d (.str a1)]=>fun k=>g a1 (fun z0 z1 z2=>k (.tup [.arr 32 z0,.d (.int .i64 z1),.d (.int .i64 z2)]) [.undef]) | _=>fun _=>none
def yfpy:SSt:=mkSh 85 6 [(5,.own 9 0),(6,.bool),(7,.own 32 1),(22,.own 9 0),(23,.int .i64),(24,.int .i64)] [(0,.row 9),(1,.row 32)]
def ycoy (g:C_band_Read) (n:Nat):LPT A:=fun ps=>match ps with | [.d (.bool p1),.d (.int .i64 p2),.d (.int .i64 p3),.d (.sl 9 p4),.d (.sl 32 p5)]=>fun K=>ybMy g n p1 p2 p3 p4 p5 (fun z0 z1 z2=>K .ret (mkSt 85 6 [(2,.d .nsl),(3,.d (.int .i64 z0)),(4,.d (.int .i64 z1)),(7,.own 32 1)] [(1,some (.row 32 z2))])) (fun z0=>K (.exit 0) (mkSt 85 6 [(7,.own 32 1)] [(1,some (.row 32 z0))])) | _=>fun _=>none
noncomputable def yyuy:Code:=(Tryz.f10.body).getD .skip
noncomputable def ygzy (g:C_band_Read):Env A:=mkE [(24,yhGy g.z10z),(34,yfsy g.kit_Lines),(35,ye5y g.kit_Words),(36,ynuy g.z48z)] [(19,[0]),(31,[2]),(56,[3]),(76,[4]),(77,[5])] [(6,⟨[5,6,7,22,23,24],[(7,32,1)],[0],[],[],[],[]⟩)] [(6,⟨[2,3,4,7],[],[1],[],[],[],[]⟩)] [(6,yafy yfpy (ycoy g g.N))] [] [] [] [] []
theorem yway [Fuel]:yagy (ygzy yaVy).C:=ct_of (P:=Tryz.prog) (T:=T) (.cons yhxy (.cons ylPy (.cons ymly (.cons yyZy .nil)))) (by kernel_rfl)
noncomputable def yiKy:Code:=sub [1,1,1,1,0,1,0,0] yyuy
theorem yrGy (g:C_band_Read) (n:Nat):yaly (ygzy g) g.N yiKy yfpy (ycoy g) n:=by intro ps; unfold ycoy; split; exact .inr fun R K=>(by kernel_rfl); exact .inl fun R K=>rfl
theorem yqHy [Fuel]:yaey (ygzy yaVy) NN yiKy:=yahy yfpy (ycoy yaVy) (by kernel_rfl) yway (cuts0 (fun _=>rfl) (by kernel_rfl)) (fun ps R K=>by unfold ycoy; split <;> (try unfold ybMy) <;> rfl) (yrGy yaVy)
theorem yvpy (g:C_band_Read):Same (yeRy (@yhgy g)) (abody (ygzy g) Tryz.f10 yyuy 6 [] [.arr 32,.asis,.asis] g.N):=by intro args; unfold yeRy; split; exact .inr fun R k=>(by kernel_rfl); exact .inl fun R k=>rfl
theorem ywJy [Fuel]:Ok 10 (yeRy (@band_Read _)):=yaay std (.cons yhxy (.cons ylPy (.cons ymly (.cons yyZy .nil)))) ⟨rfl,rfl,by kernel_rfl,rfl,rfl,rfl⟩ (yvpy yaVy) (cutsL (fun _=>rfl) (.cons yqHy .nil) (by kernel_rfl)) Tryz.func10 (by kernel_rfl) (by kernel_rfl)
abbrev ygty:Type 1:=List Int→{R:Type}→(Int→Option R)→Option R
def yfgy (g:Nat):Nat→List Int→Int→Int→{R:Type}→(Int→Option R)→Option R→Option R
 | 0,_,_,_,_,_,_=>none
 | n + 1,v2,v3,v4,_,e0,e1=>(bif (decide (v4 < v3)) then (get_ v2 v4 fun x6=>(bif (x6 != 0) then e0 x6 else yfgy g n v2 v3 (w64 (v4 + 1)) e0 e1)) else e1)
def yqVy (g:Nat) (a1:List Int) {R:Type} (k0:Int→Option R):Option R :=
 (yfgy g g a1 (a1.length:Int) 0 (fun e7=>k0 e7) (k0 0))
noncomputable def keep_errs [Fuel]:ygty:=@yqVy NN
def ydvy (g:ygty):Spec A:=fun args=>match args with | [.d (.sl 33 a1)]=>fun k=>g a1 (fun z0=>k (.d (.int .i64 z0)) [.undef]) | _=>fun _=>none
def yfcy:SSt:=mkSh 15 0 [(5,.sl 33),(6,.int .i64),(7,.int .i64)] []
def yciy (g:Nat) (n:Nat):LPT A:=fun ps=>match ps with | [.d (.sl 33 p1),.d (.int .i64 p2),.d (.int .i64 p3)]=>fun K=>yfgy g n p1 p2 p3 (fun z0=>K .ret (mkSt 15 0 [(2,.d (.int .i64 z0))] [])) (K (.exit 0) (mkSt 15 0 [] [])) | _=>fun _=>none
noncomputable def yyUy:Code:=(Tryz.f11.body).getD .skip
noncomputable def ygmy (g:Nat):Env A:=mkE [] [] [(2,⟨[5,6,7],[],[],[],[],[],[]⟩)] [(2,⟨[2],[],[],[],[],[],[]⟩)] [(2,yafy yfcy (yciy g g))] [] [] [] [] []
theorem ytIy [Fuel]:yagy (ygmy NN).C:=ct_of (P:=Tryz.prog) (T:=T) .nil (by kernel_rfl)
noncomputable def yiJy:Code:=sub [1,0,1,0,0] yyUy
theorem yrLy (g:Nat) (n:Nat):yaly (ygmy g) g yiJy yfcy (yciy g) n:=by intro ps; unfold yciy; split; exact .inr fun R K=>(by kernel_rfl); exact .inl fun R K=>rfl
theorem ypqy [Fuel]:yaey (ygmy NN) NN yiJy:=yahy yfcy (yciy NN) (by kernel_rfl) ytIy (cuts0 (fun _=>rfl) (by kernel_rfl)) (fun ps R K=>by unfold yciy; split <;> (try unfold yfgy) <;> rfl) (yrLy NN)
theorem ywhy (g:Nat):Same (ydvy (@yqVy g)) (abody (ygmy g) Tryz.f11 yyUy 0 [] [.asis] g):=by intro args; unfold ydvy; split; exact .inr fun R k=>(by kernel_rfl); exact .inl fun R k=>rfl
theorem ylXy [Fuel]:Ok 11 (ydvy (@keep_errs _)):=yaay std .nil ⟨rfl,rfl,by kernel_rfl,rfl,rfl,rfl⟩ (ywhy NN) (cutsL (fun _=>rfl) (.cons ypqy .nil) (by kernel_rfl)) Tryz.func11 (by kernel_rfl) (by kernel_rfl)
abbrev ywIy:Type 1:=List G_Spot→List G_Spot→{R:Type}→(Bool→Option R)→Option R
def z38z_L4 (g:Nat):Nat→List G_Spot→List G_Spot→Int→Int→{R:Type}→(Bool→Option R)→Option R→Option R
 | 0,_,_,_,_,_,_,_=>none
 | n + 1,v3,v4,v5,v6,_,e0,e1=>(bif (decide (v6 < v5)) then (get_ v3 v6 fun x9=>(get_ v4 v6 fun x10=>(bif (!(yaZy x9 x10)) then e0 false else z38z_L4 g n v3 v4 v5 (w64 (v6 + 1)) e0 e1))) else e1)
def z38z_ (g:Nat) (a1 a2:List G_Spot) {R:Type} (k0:Bool→Option R):Option R :=
 (bif ((a1.length:Int) != (a2.length:Int)) then k0 false else (z38z_L4 g g a1 a2 (a1.length:Int) 0 (fun e11=>k0 e11) (k0 true)))
noncomputable def z38z [Fuel]:ywIy:=@z38z_ NN
def ynWy (g:ywIy):Spec A:=fun args=>match args with | [.d (.sl 32 a1),.d (.sl 32 a2)]=>fun k=>g a1 a2 (fun z0=>k (.d (.bool z0)) [.undef,.undef]) | _=>fun _=>none
def ykTy:SSt:=mkSh 26 0 [(0,.sl 32),(1,.sl 32),(12,.int .i64),(13,.int .i64)] []
def yfBy (g:Nat) (n:Nat):LPT A:=fun ps=>match ps with | [.d (.sl 32 p1),.d (.sl 32 p2),.d (.int .i64 p3),.d (.int .i64 p4)]=>fun K=>z38z_L4 g n p1 p2 p3 p4 (fun z0=>K .ret (mkSt 26 0 [(4,.d (.bool z0))] [])) (K (.exit 0) (mkSt 26 0 [] [])) | _=>fun _=>none
noncomputable def yzwy:Code:=(Tryz.f12.body).getD .skip
noncomputable def yriy (g:Nat):Env A:=mkE [] [] [(4,⟨[0,1,12,13],[],[],[],[],[],[]⟩)] [(4,⟨[4],[],[],[],[],[],[]⟩)] [(4,yafy ykTy (yfBy g g))] [] [] [] [] []
theorem yIry [Fuel]:yagy (yriy NN).C:=ct_of (P:=Tryz.prog) (T:=T) .nil (by kernel_rfl)
noncomputable def yruy:Code:=sub [1,1,0,1,0,0] yzwy
theorem yCJy (g:Nat) (n:Nat):yaly (yriy g) g yruy ykTy (yfBy g) n:=by intro ps; unfold yfBy; split; exact .inr fun R K=>(by kernel_rfl); exact .inl fun R K=>rfl
theorem yBay [Fuel]:yaey (yriy NN) NN yruy:=yahy ykTy (yfBy NN) (by kernel_rfl) yIry (cuts0 (fun _=>rfl) (by kernel_rfl)) (fun ps R K=>by unfold yfBy; split <;> (try unfold z38z_L4) <;> rfl) (yCJy NN)
theorem yJoy (g:Nat):Same (ynWy (@z38z_ g)) (abody (yriy g) Tryz.f12 yzwy 0 [] [.asis] g):=by intro args; unfold ynWy; split; exact .inr fun R k=>(by kernel_rfl); exact .inl fun R k=>rfl
theorem yJKy [Fuel]:Ok 12 (ynWy (@z38z _)):=yaay std .nil ⟨rfl,rfl,by kernel_rfl,rfl,rfl,rfl⟩ (yJoy NN) (cutsL (fun _=>rfl) (.cons yBay .nil) (by kernel_rfl)) Tryz.func12 (by kernel_rfl) (by kernel_rfl)
abbrev ydey:Type 1:=Int→{R:Type}→(Bool→Option R)→Option R
structure C_kit_IsMode where
 N:Nat
 z45z:ydNy
def yi3y (g:C_kit_IsMode) (a1:Int) {R:Type} (k0:Bool→Option R):Option R :=
 (g.z45z a1 1 3 (fun r2=>k0 (!r2)))
noncomputable def yhVy [Fuel]:C_kit_IsMode:=⟨NN,@z45z _⟩
noncomputable def kit_IsMode [Fuel]:ydey:=@yi3y yhVy
def yccy (g:ydey):Spec A:=fun args=>match args with | [.d (.int .i64 a1)]=>fun k=>g a1 (fun z0=>k (.d (.bool z0)) [.undef]) | _=>fun _=>none
noncomputable def yJLy:Code:=(Tryz.f81.body).getD .skip
noncomputable def ywEy (g:C_kit_IsMode):Env A:=mkE [(63,ycvy g.z45z)] [] [] [] [] [] [] [] [] []
theorem ytoy (g:C_kit_IsMode):Same (yccy (@yi3y g)) (abody (ywEy g) Tryz.f81 yJLy 0 [] [.asis] g.N):=by intro args; unfold yccy; split; exact .inr fun R k=>(by kernel_rfl); exact .inl fun R k=>rfl
theorem yd8y [Fuel]:Ok 81 (yccy (@kit_IsMode _)):=yaay std (.cons yc5y .nil) ⟨rfl,rfl,by kernel_rfl,rfl,rfl,rfl⟩ (ytoy yhVy) (cuts0 (fun _=>rfl) (by kernel_rfl)) Tryz.func81 (by kernel_rfl) (by kernel_rfl)
abbrev yc9y:Type 1:=List UInt8→Int→{R:Type}→(Int→Option R)→Option R
def strings_IndexByte [Fuel]:yc9y:=@X_ixb
def yfxy (g:yc9y):Spec A:=yjhy g
theorem yj9y [Fuel]:Ok 137 (yfxy (@strings_IndexByte _)):=⟨ytcy (yDpy (Any.strings_IndexByte Tryz.lays137)),yxny,enters_of (fn:=Tryz.f137) Tryz.func137 (by kernel_rfl) (by kernel_rfl)⟩
abbrev ybsy:Type 1:=List UInt8→{R:Type}→(Bool→Option R)→Option R
structure C_kit_IsKey where
 N:Nat
 strings_Trim:ycFy
 strings_IndexByte:yc9y
def yqiy (g:C_kit_IsKey) (a1:List UInt8) {R:Type} (k0:Bool→Option R):Option R :=
 (bif (!(a1 == [])) then (bif (decide ((a1.length:Int)≤40)) then (at_ a1 0 fun x2=>(g.strings_IndexByte [97,98,99,100,101,102,103,104,105,106,107,108,109,110,111,112,113,114,115,116,117,118,119,120,121,122] (x2.toNat:Int) (fun r3=>(bif (decide (r3 ≥ 0)) then (g.strings_Trim a1 [97,98,99,100,101,102,103,104,105,106,107,108,109,110,111,112,113,114,115,116,117,118,119,120,121,122,48,49,50,51,52,53,54,55,56,57,45,95] (fun r4=>k0 (r4 == []))) else k0 false)))) else k0 false) else k0 false)
noncomputable def youy [Fuel]:C_kit_IsKey:=⟨NN,@strings_Trim _,@strings_IndexByte _⟩
noncomputable def kit_IsKey [Fuel]:ybsy:=@yqiy youy
def ya9y (g:ybsy):Spec A:=fun args=>match args with | [.d (.str a1)]=>fun k=>g a1 (fun z0=>k (.d (.bool z0)) [.undef]) | _=>fun _=>none
noncomputable def yIgy:Code:=(Tryz.f80.body).getD .skip
noncomputable def yxKy (g:C_kit_IsKey):Env A:=mkE [(129,ydby g.strings_Trim),(137,yfxy g.strings_IndexByte)] [] [] [] [] [] [] [] [] []
theorem yvxy (g:C_kit_IsKey):Same (ya9y (@yqiy g)) (abody (yxKy g) Tryz.f80 yIgy 0 [] [.asis] g.N):=by intro args; unfold ya9y; split; exact .inr fun R k=>(by kernel_rfl); exact .inl fun R k=>rfl
theorem yaRy [Fuel]:Ok 80 (ya9y (@kit_IsKey _)):=yaay std (.cons ye9y (.cons yj9y .nil)) ⟨rfl,rfl,by kernel_rfl,rfl,rfl,rfl⟩ (yvxy youy) (cuts0 (fun _=>rfl) (by kernel_rfl)) Tryz.func80 (by kernel_rfl) (by kernel_rfl)
abbrev yhUy:Type 1:=List UInt8→{R:Type}→(Bool→Option R)→Option R
structure C_kit_IsName where
 N:Nat
 kit_IsKey:ybsy
def yomy (g:C_kit_IsName) (a1:List UInt8) {R:Type} (k0:Bool→Option R):Option R :=
 (bif (a1 == []) then k0 true else (g.kit_IsKey a1 (fun r2=>k0 r2)))
noncomputable def ylDy [Fuel]:C_kit_IsName:=⟨NN,@kit_IsKey _⟩
noncomputable def kit_IsName [Fuel]:yhUy:=@yomy ylDy
def yd7y (g:yhUy):Spec A:=fun args=>match args with | [.d (.str a1)]=>fun k=>g a1 (fun z0=>k (.d (.bool z0)) [.undef]) | _=>fun _=>none
noncomputable def yFqy:Code:=(Tryz.f202.body).getD .skip
noncomputable def yvOy (g:C_kit_IsName):Env A:=mkE [(80,ya9y g.kit_IsKey)] [] [] [] [] [] [] [] [] []
theorem ytyy (g:C_kit_IsName):Same (yd7y (@yomy g)) (abody (yvOy g) Tryz.f202 yFqy 0 [] [.asis] g.N):=by intro args; unfold yd7y; split; exact .inr fun R k=>(by kernel_rfl); exact .inl fun R k=>rfl
theorem ytly [Fuel]:Ok 202 (yd7y (@kit_IsName _)):=yaay std (.cons yaRy .nil) ⟨rfl,rfl,by kernel_rfl,rfl,rfl,rfl⟩ (ytyy ylDy) (cuts0 (fun _=>rfl) (by kernel_rfl)) Tryz.func202 (by kernel_rfl) (by kernel_rfl)
abbrev yq6y:Type 1:=G_Contact→{R:Type}→(Int→Option R)→Option R
structure C_z61z where
 N:Nat
 z49z:yh4y
 z45z:ydNy
 call_Is:ygJy
 kit_IsKey:ybsy
 kit_IsMode:ydey
 kit_IsName:yhUy
def z61z_ (g:C_z61z) (a1:G_Contact) {R:Type} (k0:Int→Option R):Option R :=
 (g.z49z a1.f_At (fun r2=>(bif (!r2) then k0 1 else (g.kit_IsMode a1.f_Mode (fun r3=>(bif (!r3) then k0 4 else (g.kit_IsKey a1.f_Band (fun r4=>(bif (!r4) then k0 5 else (g.call_Is a1.f_Call (fun r5=>(bif (!r5) then k0 3 else (g.z45z a1.f_Sent 0 99999 (fun r6=>(bif r6 then k0 1 else (g.z45z a1.f_Heard 0 99999 (fun r7=>(bif r7 then k0 1 else (g.kit_IsName a1.f_Gave (fun r8=>(bif (!r8) then k0 5 else (g.kit_IsName a1.f_Got (fun r9=>(bif (!r9) then k0 5 else k0 0))))))))))))))))))))))))
noncomputable def yB2y [Fuel]:C_z61z:=⟨NN,@z49z _,@z45z _,@call_Is _,@kit_IsKey _,@kit_IsMode _,@kit_IsName _⟩
noncomputable def z61z [Fuel]:yq6y:=@z61z_ yB2y
def yjSy (g:yq6y):Spec A:=fun args=>match args with | [.agg [.d (.int .i64 a1),.d (.int .i64 a2),.d (.str a3),.d (.str a4),.d (.int .i64 a5),.d (.int .i64 a6),.d (.str a7),.d (.str a8)]]=>fun k=>g ⟨a1,a2,a3,a4,a5,a6,a7,a8⟩ (fun z0=>k (.d (.int .i64 z0)) [.undef]) | _=>fun _=>none
noncomputable def yEmy:Code:=(Tryz.f131.body).getD .skip
noncomputable def yKNy (g:C_z61z):Env A:=mkE [(62,yevy g.z49z),(63,ycvy g.z45z),(64,ydGy g.call_Is),(80,ya9y g.kit_IsKey),(81,yccy g.kit_IsMode),(202,yd7y g.kit_IsName)] [(1,[0])] [] [] [] [] [] [] [] []
theorem yJry (g:C_z61z):Same (yjSy (@z61z_ g)) (abody (yKNy g) Tryz.f131 yEmy 1 [] [.asis] g.N):=by intro args; unfold yjSy; split; exact .inr fun R k=>(by kernel_rfl); exact .inl fun R k=>rfl
theorem ysey [Fuel]:Ok 131 (yjSy (@z61z _)):=yaay std (.cons yhFy (.cons yc5y (.cons ydEy (.cons yaRy (.cons yd8y (.cons ytly .nil)))))) ⟨rfl,rfl,by kernel_rfl,rfl,rfl,rfl⟩ (yJry yB2y) (cuts0 (fun _=>rfl) (by kernel_rfl)) Tryz.func131 (by kernel_rfl) (by kernel_rfl)
abbrev ytVy:Type 1:=G_Contact→G_Contact→{R:Type}→(Int→Option R)→Option R
structure C_z47z where
 N:Nat
 z20z:ygXy
 z14z:ygLy
 strings_Compare:yaYy
def z47z_ (g:C_z47z) (a1 a2:G_Contact) {R:Type} (k0:Int→Option R):Option R :=
 (g.z14z a1.f_At a2.f_At (fun r3=>(g.strings_Compare a1.f_Call a2.f_Call (fun r4=>(g.strings_Compare a1.f_Band a2.f_Band (fun r5=>(g.z14z a1.f_Mode a2.f_Mode (fun r6=>(g.z20z [r3,r4,r5,r6] (fun r7=>k0 r7))))))))))
noncomputable def yv0y [Fuel]:C_z47z:=⟨NN,@z20z _,@z14z _,@strings_Compare _⟩
noncomputable def z47z [Fuel]:ytVy:=@z47z_ yv0y
def yeDy (g:ytVy):Spec A:=fun args=>match args with | [.agg [.d (.int .i64 a1),.d (.int .i64 a2),.d (.str a3),.d (.str a4),.d (.int .i64 a5),.d (.int .i64 a6),.d (.str a7),.d (.str a8)],.agg [.d (.int .i64 a9),.d (.int .i64 a10),.d (.str a11),.d (.str a12),.d (.int .i64 a13),.d (.int .i64 a14),.d (.str a15),.d (.str a16)]]=>fun k=>g ⟨a1,a2,a3,a4,a5,a6,a7,a8⟩ ⟨a9,a10,a11,a12,a13,a14,a15,a16⟩ (fun z0=>k (.d (.int .i64 z0)) [.undef,.undef]) | _=>fun _=>none
noncomputable def ywLy:Code:=(Tryz.f132.body).getD .skip
noncomputable def yKGy (g:C_z47z):Env A:=mkE [(68,ybCy g.z20z),(69,ybDy g.z14z),(70,yaBy g.strings_Compare)] [(2,[0]),(3,[1]),(25,[2])] [] [] [] [] [] [] [] []
theorem yJsy (g:C_z47z):Same (yeDy (@z47z_ g)) (abody (yKGy g) Tryz.f132 ywLy 3 [] [.asis] g.N):=by intro args; unfold yeDy; split; exact .inr fun R k=>(by kernel_rfl); exact .inl fun R k=>rfl
theorem yzEy [Fuel]:Ok 132 (yeDy (@z47z _)):=yaay std (.cons ygdy (.cons ygby (.cons ya7y .nil))) ⟨rfl,rfl,by kernel_rfl,rfl,rfl,rfl⟩ (yJsy yv0y) (cuts0 (fun _=>rfl) (by kernel_rfl)) Tryz.func132 (by kernel_rfl) (by kernel_rfl)
noncomputable def yJTy (g:C_z47z):Env A:=mkED [(68,ybCy g.z20z),(69,ybDy g.z14z),(70,yaBy g.strings_Compare)] [(2,[0]),(3,[1]),(25,[2])] [] [] [] [] [] [] [] []
theorem yEXy (g:C_z47z):Same (yeDy (@z47z_ g)) (abody (yJTy g) Tryz.f132 ywLy 3 [] [.asis] g.N):=by intro args; unfold yeDy; split; exact .inr fun R k=>(by kernel_rfl); exact .inl fun R k=>rfl
theorem yu0y [Fuel]:OkD 132 (yeDy (@z47z _)):=yaay stdD (.cons yoNy (.cons ypcy (.cons yc7y .nil))) ⟨rfl,rfl,by kernel_rfl,rfl,rfl,rfl⟩ (yEXy yv0y) (cuts0 (fun _=>rfl) (by kernel_rfl)) Tryz.func132 (by kernel_rfl) (by kernel_rfl)
abbrev ytZy:Type 1:=List G_Contact→{R:Type}→(Int→Option R)→Option R
structure C_z50z where
 N:Nat
 z61z:yq6y
 z47z:ytVy
def z50z_L4 (g:C_z50z):Nat→List G_Contact→List G_Contact→Int→Int→{R:Type}→(Int→Option R)→Option R→Option R
 | 0,_,_,_,_,_,_,_=>none
 | n + 1,v2,v3,v4,v5,_,e0,e1=>(bif (decide (v5 < v4)) then (get_ v3 v5 fun x10=>(g.z61z x10 (fun r11=>(bif (r11 != 0) then e0 r11 else (bif (decide (v5 > 0)) then (get_ v2 (w64 (v5 - 1)) fun x12=>(g.z47z x12 x10 (fun r13=>(bif (decide (r13 ≥ 0)) then e0 7 else z50z_L4 g n v2 v3 v4 (w64 (v5 + 1)) e0 e1)))) else z50z_L4 g n v2 v3 v4 (w64 (v5 + 1)) e0 e1))))) else e1)
def z50z_ (g:C_z50z) (a1:List G_Contact) {R:Type} (k0:Int→Option R):Option R :=
 (bif (decide ((a1.length:Int) > 2000)) then k0 2 else (z50z_L4 g g.N a1 a1 (a1.length:Int) 0 (fun e14=>k0 e14) (k0 0)))
noncomputable def yjmy [Fuel]:C_z50z:=⟨NN,@z61z _,@z47z _⟩
noncomputable def z50z [Fuel]:ytZy:=@z50z_ yjmy
def ynFy (g:ytZy):Spec A:=fun args=>match args with | [.d (.sl 49 a1)]=>fun k=>g a1 (fun z0=>k (.d (.int .i64 z0)) [.undef]) | _=>fun _=>none
def yk9y:SSt:=mkSh 34 1 [(0,.sl 49),(9,.sl 49),(10,.int .i64),(11,.int .i64)] []
def yeHy (g:C_z50z) (n:Nat):LPT A:=fun ps=>match ps with | [.d (.sl 49 p1),.d (.sl 49 p2),.d (.int .i64 p3),.d (.int .i64 p4)]=>fun K=>z50z_L4 g n p1 p2 p3 p4 (fun z0=>K .ret (mkSt 34 1 [(2,.d (.int .i64 z0))] [])) (K (.exit 0) (mkSt 34 1 [] [])) | _=>fun _=>none
noncomputable def yzcy:Code:=(Tryz.f77.body).getD .skip
noncomputable def yqBy (g:C_z50z):Env A:=mkE [(131,yjSy g.z61z),(132,yeDy g.z47z)] [(4,[0])] [(4,⟨[0,9,10,11],[],[],[],[],[],[]⟩)] [(4,⟨[2],[],[],[],[],[],[]⟩)] [(4,yafy yk9y (yeHy g g.N))] [] [] [] [] []
theorem yGdy [Fuel]:yagy (yqBy yjmy).C:=ct_of (P:=Tryz.prog) (T:=T) (.cons ysey (.cons yzEy .nil)) (by kernel_rfl)
noncomputable def ypHy:Code:=sub [1,1,0,1,0,0] yzcy
theorem yBRy (g:C_z50z) (n:Nat):yaly (yqBy g) g.N ypHy yk9y (yeHy g) n:=by intro ps; unfold yeHy; split; exact .inr fun R K=>(by kernel_rfl); exact .inl fun R K=>rfl
theorem yApy [Fuel]:yaey (yqBy yjmy) NN ypHy:=yahy yk9y (yeHy yjmy) (by kernel_rfl) yGdy (cuts0 (fun _=>rfl) (by kernel_rfl)) (fun ps R K=>by unfold yeHy; split <;> (try unfold z50z_L4) <;> rfl) (yBRy yjmy)
theorem yH2y (g:C_z50z):Same (ynFy (@z50z_ g)) (abody (yqBy g) Tryz.f77 yzcy 1 [] [.asis] g.N):=by intro args; unfold ynFy; split; exact .inr fun R k=>(by kernel_rfl); exact .inl fun R k=>rfl
theorem yI9y [Fuel]:Ok 77 (ynFy (@z50z _)):=yaay std (.cons ysey (.cons yzEy .nil)) ⟨rfl,rfl,by kernel_rfl,rfl,rfl,rfl⟩ (yH2y yjmy) (cutsL (fun _=>rfl) (.cons yApy .nil) (by kernel_rfl)) Tryz.func77 (by kernel_rfl) (by kernel_rfl)
abbrev ywRy:Type 1:=List UInt8→{R:Type}→(List UInt8→Option R)→Option R
structure C_z85z where
 N:Nat
 call_Parts:yfqy
def z85z_ (g:C_z85z) (a1:List UInt8) {R:Type} (k0:List UInt8→Option R):Option R :=
 (g.call_Parts a1 (fun r2 r3=>k0 r2.f_Base))
noncomputable def yCXy [Fuel]:C_z85z:=⟨NN,@call_Parts _⟩
noncomputable def z85z [Fuel]:ywRy:=@z85z_ yCXy
def ynpy (g:ywRy):Spec A:=fun args=>match args with | [.d (.str a1)]=>fun k=>g a1 (fun z0=>k (.d (.str z0)) [.undef]) | _=>fun _=>none
noncomputable def yE5y:Code:=(Tryz.f133.body).getD .skip
noncomputable def yKLy (g:C_z85z):Env A:=mkE [(110,ycXy g.call_Parts)] [(3,[0])] [] [] [] [] [] [] [] []
theorem yIby (g:C_z85z):Same (ynpy (@z85z_ g)) (abody (yKLy g) Tryz.f133 yE5y 1 [] [.asis] g.N):=by intro args; unfold ynpy; split; exact .inr fun R k=>(by kernel_rfl); exact .inl fun R k=>rfl
theorem yzqy [Fuel]:Ok 133 (ynpy (@z85z _)):=yaay std (.cons ylvy .nil) ⟨rfl,rfl,by kernel_rfl,rfl,rfl,rfl⟩ (yIby yCXy) (cuts0 (fun _=>rfl) (by kernel_rfl)) Tryz.func133 (by kernel_rfl) (by kernel_rfl)
abbrev yi8y:Type 1:=List G_Contact→{R:Type}→(List Int→Option R)→Option R
structure C_log_dupes where
 N:Nat
 z85z:ywRy
def ydoy (g:C_log_dupes):Nat→List G_Contact→Int→Int→List (G_log_worked×Bool)→List Int→{R:Type}→(List Int→Option R)→Option R
 | 0,_,_,_,_,_,_,_=>none
 | n + 1,v2,v3,v4,v5,v6,_,e0=>(bif (decide (v4 < v3)) then (get_ v2 v4 fun x9=>(g.z85z x9.f_Call (fun r10=>(bif ((ybUy (⟨r10,x9.f_Band,x9.f_Mode⟩:G_log_worked) v5).getD false) then (bif (decide ((v6.length + [v4].length) * 8≤yaiy)) then ydoy g n v2 v3 (w64 (v4 + 1)) (ybty (⟨r10,x9.f_Band,x9.f_Mode⟩:G_log_worked) true v5) (v6 ++ [v4]) e0 else none) else ydoy g n v2 v3 (w64 (v4 + 1)) (ybty (⟨r10,x9.f_Band,x9.f_Mode⟩:G_log_worked) true v5) v6 e0)))) else e0 v6)
def yqry (g:C_log_dupes) (a1:List G_Contact) {R:Type} (k0:List Int→Option R):Option R :=
 (ydoy g g.N a1 (a1.length:Int) 0 [] [] (fun e11=>k0 e11))
noncomputable def yc6y [Fuel]:C_log_dupes:=⟨NN,@z85z _⟩
noncomputable def log_dupes [Fuel]:yi8y:=@yqry yc6y
def yfvy (g:yi8y):Spec A:=fun args=>match args with | [.d (.sl 49 a1)]=>fun k=>g a1 (fun z0=>k (.arr 3 z0) [.undef]) | _=>fun _=>none
def yfby:SSt:=mkSh 35 6 [(3,.mp 0),(4,.own 3 1),(9,.sl 49),(10,.int .i64),(11,.int .i64)] [(0,.mp 195 4),(1,.row 3)]
def ychy (g:C_log_dupes) (n:Nat):LPT A:=fun ps=>match ps with | [.d (.sl 49 p1),.d (.int .i64 p2),.d (.int .i64 p3),.mp 195 4 p4,.d (.sl 3 p5)]=>fun K=>ydoy g n p1 p2 p3 p4 p5 (fun z0=>K (.exit 0) (mkSt 35 6 [(4,.own 3 1)] [(1,some (.row 3 z0))])) | _=>fun _=>none
noncomputable def yziy:Code:=(Tryz.f78.body).getD .skip
noncomputable def ygyy (g:C_log_dupes):Env A:=mkE [(133,ynpy g.z85z)] [(6,[2]),(7,[3]),(8,[0]),(29,[4]),(30,[5])] [(4,⟨[3,4,9,10,11],[(4,3,1)],[0],[],[],[],[]⟩)] [(4,⟨[4],[],[1],[],[],[],[]⟩)] [(4,yafy yfby (ychy g g.N))] [] [] [] [] []
theorem yvGy [Fuel]:yagy (ygyy yc6y).C:=ct_of (P:=Tryz.prog) (T:=T) (.cons yzqy .nil) (by kernel_rfl)
noncomputable def yiBy:Code:=sub [1,1,1,0,1,0,0] yziy
theorem yrwy (g:C_log_dupes) (n:Nat):yaly (ygyy g) g.N yiBy yfby (ychy g) n:=by intro ps; unfold ychy; split; exact .inr fun R K=>(by kernel_rfl); exact .inl fun R K=>rfl
theorem yqjy [Fuel]:yaey (ygyy yc6y) NN yiBy:=yahy yfby (ychy yc6y) (by kernel_rfl) yvGy (cuts0 (fun _=>rfl) (by kernel_rfl)) (fun ps R K=>by unfold ychy; split <;> (try unfold ydoy) <;> rfl) (yrwy yc6y)
theorem yuky (g:C_log_dupes):Same (yfvy (@yqry g)) (abody (ygyy g) Tryz.f78 yziy 6 [] [.arr 3] g.N):=by intro args; unfold yfvy; split; exact .inr fun R k=>(by kernel_rfl); exact .inl fun R k=>rfl
theorem yu8y [Fuel]:Ok 78 (yfvy (@log_dupes _)):=yaay std (.cons yzqy .nil) ⟨rfl,rfl,by kernel_rfl,rfl,rfl,rfl⟩ (yuky yc6y) (cutsL (fun _=>rfl) (.cons yqjy .nil) (by kernel_rfl)) Tryz.func78 (by kernel_rfl) (by kernel_rfl)
abbrev yi5y:Type 1:=List G_Contact→{R:Type}→(List Int→Int→Option R)→Option R
structure C_log_Dupes where
 N:Nat
 z50z:ytZy
 log_dupes:yi8y
def ypjy (g:C_log_Dupes) (a1:List G_Contact) {R:Type} (k0:List Int→Int→Option R):Option R :=
 (g.z50z a1 (fun r2=>(bif (r2 != 0) then k0 [] r2 else (g.log_dupes a1 (fun r3=>k0 r3 0)))))
noncomputable def yn3y [Fuel]:C_log_Dupes:=⟨NN,@z50z _,@log_dupes _⟩
noncomputable def log_Dupes [Fuel]:yi5y:=@ypjy yn3y
def yfky (g:yi5y):Spec A:=fun args=>match args with | [.d (.sl 49 a1)]=>fun k=>g a1 (fun z0 z1=>k (.tup [.arr 3 z0,.d (.int .i64 z1)]) [.undef]) | _=>fun _=>none
noncomputable def yHSy:Code:=(Tryz.f37.body).getD .skip
noncomputable def yxpy (g:C_log_Dupes):Env A:=mkE [(77,ynFy g.z50z),(78,yfvy g.log_dupes)] [(11,[0])] [] [] [] [] [] [] [] []
theorem yuwy (g:C_log_Dupes):Same (yfky (@ypjy g)) (abody (yxpy g) Tryz.f37 yHSy 1 [] [.arr 3,.asis] g.N):=by intro args; unfold yfky; split; exact .inr fun R k=>(by kernel_rfl); exact .inl fun R k=>rfl
theorem yu2y [Fuel]:Ok 37 (yfky (@log_Dupes _)):=yaay std (.cons yI9y (.cons yu8y .nil)) ⟨rfl,rfl,by kernel_rfl,rfl,rfl,rfl⟩ (yuwy yn3y) (cuts0 (fun _=>rfl) (by kernel_rfl)) Tryz.func37 (by kernel_rfl) (by kernel_rfl)
abbrev yuuy:Type 1:=List Int→{R:Type}→(Int→Option R)→Option R
structure C_z27z where
 N:Nat
 kit_IsMode:ydey
def z27z_L4 (g:C_z27z):Nat→List Int→List Int→Int→Int→{R:Type}→(Int→Option R)→Option R→Option R
 | 0,_,_,_,_,_,_,_=>none
 | n + 1,v2,v3,v4,v5,_,e0,e1=>(bif (decide (v5 < v4)) then (get_ v3 v5 fun x9=>(g.kit_IsMode x9 (fun r10=>(bif (!r10) then e0 4 else (bif (decide (v5 > 0)) then (get_ v2 (w64 (v5 - 1)) fun x11=>(bif (decide (x9≤x11)) then e0 7 else z27z_L4 g n v2 v3 v4 (w64 (v5 + 1)) e0 e1)) else z27z_L4 g n v2 v3 v4 (w64 (v5 + 1)) e0 e1))))) else e1)
def z27z_ (g:C_z27z) (a1:List Int) {R:Type} (k0:Int→Option R):Option R :=
 (bif ((a1.length:Int) == 0) then k0 8 else (z27z_L4 g g.N a1 a1 (a1.length:Int) 0 (fun e12=>k0 e12) (k0 0)))
noncomputable def ydmy [Fuel]:C_z27z:=⟨NN,@kit_IsMode _⟩
noncomputable def z27z [Fuel]:yuuy:=@z27z_ ydmy
def ym1y (g:yuuy):Spec A:=fun args=>match args with | [.d (.sl 3 a1)]=>fun k=>g a1 (fun z0=>k (.d (.int .i64 z0)) [.undef]) | _=>fun _=>none
def yj7y:SSt:=mkSh 30 0 [(0,.sl 3),(8,.sl 3),(9,.int .i64),(10,.int .i64)] []
def yfDy (g:C_z27z) (n:Nat):LPT A:=fun ps=>match ps with | [.d (.sl 3 p1),.d (.sl 3 p2),.d (.int .i64 p3),.d (.int .i64 p4)]=>fun K=>z27z_L4 g n p1 p2 p3 p4 (fun z0=>K .ret (mkSt 30 0 [(2,.d (.int .i64 z0))] [])) (K (.exit 0) (mkSt 30 0 [] [])) | _=>fun _=>none
noncomputable def yvby:Code:=(Tryz.f134.body).getD .skip
noncomputable def yqCy (g:C_z27z):Env A:=mkE [(81,yccy g.kit_IsMode)] [] [(4,⟨[0,8,9,10],[],[],[],[],[],[]⟩)] [(4,⟨[2],[],[],[],[],[],[]⟩)] [(4,yafy yj7y (yfDy g g.N))] [] [] [] [] []
theorem yGhy [Fuel]:yagy (yqCy ydmy).C:=ct_of (P:=Tryz.prog) (T:=T) (.cons yd8y .nil) (by kernel_rfl)
noncomputable def ypgy:Code:=sub [1,1,0,1,0,0] yvby
theorem yCmy (g:C_z27z) (n:Nat):yaly (yqCy g) g.N ypgy yj7y (yfDy g) n:=by intro ps; unfold yfDy; split; exact .inr fun R K=>(by kernel_rfl); exact .inl fun R K=>rfl
theorem yABy [Fuel]:yaey (yqCy ydmy) NN ypgy:=yahy yj7y (yfDy ydmy) (by kernel_rfl) yGhy (cuts0 (fun _=>rfl) (by kernel_rfl)) (fun ps R K=>by unfold yfDy; split <;> (try unfold z27z_L4) <;> rfl) (yCmy ydmy)
theorem yGiy (g:C_z27z):Same (ym1y (@z27z_ g)) (abody (yqCy g) Tryz.f134 yvby 0 [] [.asis] g.N):=by intro args; unfold ym1y; split; exact .inr fun R k=>(by kernel_rfl); exact .inl fun R k=>rfl
theorem yzIy [Fuel]:Ok 134 (ym1y (@z27z _)):=yaay std (.cons yd8y .nil) ⟨rfl,rfl,by kernel_rfl,rfl,rfl,rfl⟩ (yGiy ydmy) (cutsL (fun _=>rfl) (.cons yABy .nil) (by kernel_rfl)) Tryz.func134 (by kernel_rfl) (by kernel_rfl)
abbrev yh5y:Type 1:=G_Window→{R:Type}→(Bool→Option R)→Option R
def yi4y (g:Nat) (a1:G_Window) {R:Type} (k0:Bool→Option R):Option R :=
 (bif (decide (a1.f_From ≥ 0)) then (bif (decide (a1.f_From < a1.f_To)) then k0 (decide (a1.f_To≤345686400000)) else k0 false) else k0 false)
noncomputable def kit_IsTime [Fuel]:yh5y:=@yi4y NN
def yd1y (g:yh5y):Spec A:=fun args=>match args with | [.agg [.d (.int .i64 a1),.d (.int .i64 a2)]]=>fun k=>g ⟨a1,a2⟩ (fun z0=>k (.d (.bool z0)) [.undef]) | _=>fun _=>none
noncomputable def yFAy:Code:=(Tryz.f135.body).getD .skip
noncomputable def yviy (g:Nat):Env A:=mkE [] [(1,[0])] [] [] [] [] [] [] [] []
theorem ytpy (g:Nat):Same (yd1y (@yi4y g)) (abody (yviy g) Tryz.f135 yFAy 1 [] [.asis] g):=by intro args; unfold yd1y; split; exact .inr fun R k=>(by kernel_rfl); exact .inl fun R k=>rfl
theorem yluy [Fuel]:Ok 135 (yd1y (@kit_IsTime _)):=yaay std .nil ⟨rfl,rfl,by kernel_rfl,rfl,rfl,rfl⟩ (ytpy NN) (cuts0 (fun _=>rfl) (by kernel_rfl)) Tryz.func135 (by kernel_rfl) (by kernel_rfl)
end Go.Am
