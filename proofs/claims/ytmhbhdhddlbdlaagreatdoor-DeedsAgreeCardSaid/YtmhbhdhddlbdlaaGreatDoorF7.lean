/- The functions of the program as Lean functions, each shown to be what the code computes, part 7. No condition: lemmas for the claim. -/
import Derived.Test.YtmhbhdhddlbdlaaGreatDoorF0
import Derived.Test.YtmhbhdhddlbdlaaGreatDoorFSh
import Derived.Test.YtmhbhdhddlbdlaaGreatDoorF3
import Derived.Test.YtmhbhdhddlbdlaaGreatDoorF5
import Derived.Test.YtmhbhdhddlbdlaaGreatDoorF6
set_option linter.unusedVariables false
set_option maxRecDepth 100000
namespace Go.Am
open Go Go.Proofs
abbrev yypy:Type 1:=List UInt8→List UInt8→Int→Int→{R:Type}→(List (List UInt8)→Option R)→Option R
structure C_z33z where
 N:Nat
 strings_Count:yfiy
 strings_Index:ydDy
def z33z_L11 (g:C_z33z):Nat→List UInt8→List UInt8→Int→Int→Int→List (List UInt8)→{R:Type}→(List UInt8→Int→List (List UInt8)→Option R)→Option R
 | 0,_,_,_,_,_,_,_,_=>none
 | n + 1,v6,v7,v8,v9,v10,v11,_,e0=>(bif (decide (v10 < v9)) then (g.strings_Index v6 v7 (fun r14=>(bif (decide (r14 < 0)) then e0 v6 v10 v11 else (bif (decide (0≤(w64 (r14 + v8)))&&decide ((w64 (r14 + v8))≤(v6.length:Int))) then (inr v11 v10 (at_ v11 v10 fun x15=>(bif (decide (0≤(w64 (r14 + (v7.length:Int))))&&decide ((w64 (r14 + (v7.length:Int)))≤(v6.length:Int))) then z33z_L11 g n (v6.drop ((w64 (r14 + (v7.length:Int))):Int).toNat) v7 v8 v9 (w64 (v10 + 1)) (set_ v11 v10 (v6.take ((w64 (r14 + v8)):Int).toNat)) e0 else none))) else none)))) else e0 v6 v10 v11)
def z33z_ (g:C_z33z) (a1 a2:List UInt8) (a3 a4:Int) {R:Type} (k0:List (List UInt8)→Option R):Option R :=
 (bif (a4 == 0) then k0 [] else (bif (a2 == []) then none else (bif (decide (a4 < 0)) then (g.strings_Count a1 a2 (fun r5=>(bif (decide (0≤(if (w64 ((a1.length:Int) + 1)) < (w64 (r5 + 1)) then (w64 ((a1.length:Int) + 1)) else (w64 (r5 + 1))))&&(decide ((if (w64 ((a1.length:Int) + 1)) < (w64 (r5 + 1)) then (w64 ((a1.length:Int) + 1)) else (w64 (r5 + 1)))≤(if (w64 ((a1.length:Int) + 1)) < (w64 (r5 + 1)) then (w64 ((a1.length:Int) + 1)) else (w64 (r5 + 1))))&&decide ((if (w64 ((a1.length:Int) + 1)) < (w64 (r5 + 1)) then (w64 ((a1.length:Int) + 1)) else (w64 (r5 + 1))) * (16:Nat)≤140737488355328))) then (z33z_L11 g g.N a1 a2 a3 (w64 ((if (w64 ((a1.length:Int) + 1)) < (w64 (r5 + 1)) then (w64 ((a1.length:Int) + 1)) else (w64 (r5 + 1))) - 1)) 0 (List.replicate ((if (w64 ((a1.length:Int) + 1)) < (w64 (r5 + 1)) then (w64 ((a1.length:Int) + 1)) else (w64 (r5 + 1))):Int).toNat []) (fun e16 e17 e18=>(inr e18 e17 (at_ e18 e17 fun x19=>(bif (decide (0≤(w64 (e17 + 1)))&&decide ((w64 (e17 + 1))≤((set_ e18 e17 e16).length:Int))) then k0 ((set_ e18 e17 e16).take ((w64 (e17 + 1)):Int).toNat) else none))))) else none))) else (bif (decide (0≤(if (w64 ((a1.length:Int) + 1)) < a4 then (w64 ((a1.length:Int) + 1)) else a4))&&(decide ((if (w64 ((a1.length:Int) + 1)) < a4 then (w64 ((a1.length:Int) + 1)) else a4)≤(if (w64 ((a1.length:Int) + 1)) < a4 then (w64 ((a1.length:Int) + 1)) else a4))&&decide ((if (w64 ((a1.length:Int) + 1)) < a4 then (w64 ((a1.length:Int) + 1)) else a4) * (16:Nat)≤140737488355328))) then (z33z_L11 g g.N a1 a2 a3 (w64 ((if (w64 ((a1.length:Int) + 1)) < a4 then (w64 ((a1.length:Int) + 1)) else a4) - 1)) 0 (List.replicate ((if (w64 ((a1.length:Int) + 1)) < a4 then (w64 ((a1.length:Int) + 1)) else a4):Int).toNat []) (fun e20 e21 e22=>(inr e22 e21 (at_ e22 e21 fun x23=>(bif (decide (0≤(w64 (e21 + 1)))&&decide ((w64 (e21 + 1))≤((set_ e22 e21 e20).length:Int))) then k0 ((set_ e22 e21 e20).take ((w64 (e21 + 1)):Int).toNat) else none))))) else none))))
noncomputable def yeBy [Fuel]:C_z33z:=⟨NN,@strings_Count _,@strings_Index _⟩
noncomputable def z33z [Fuel]:yypy:=@z33z_ yeBy
def yoqy (g:yypy):Spec A:=fun args=>match args with | [.d (.str a1),.d (.str a2),.d (.int .i64 a3),.d (.int .i64 a4)]=>fun k=>g a1 a2 a3 a4 (fun z0=>k (.arr 9 z0) [.undef,.undef,.undef,.undef]) | _=>fun _=>none
def yjUy:SSt:=mkSh 66 2 [(0,.str),(1,.str),(2,.int .i64),(3,.int .i64),(9,.own 9 0),(10,.int .i64)] [(0,.row 9)]
def yery (g:C_z33z) (n:Nat):LPT A:=fun ps=>match ps with | [.d (.str p1),.d (.str p2),.d (.int .i64 p3),.d (.int .i64 p4),.d (.int .i64 p5),.d (.sl 9 p6)]=>fun K=>z33z_L11 g n p1 p2 p3 p4 p5 p6 (fun z0 z1 z2=>K (.exit 0) (mkSt 66 2 [(0,.d (.str z0)),(9,.own 9 0),(10,.d (.int .i64 z1))] [(0,some (.row 9 z2))])) | _=>fun _=>none
noncomputable def yw1y:Code:=(Tryz.f127.body).getD .skip
noncomputable def yrmy (g:C_z33z):Env A:=mkE [(190,yiEy g.strings_Count),(191,ycqy g.strings_Index)] [(31,[0]),(65,[1])] [(11,⟨[0,1,2,3,9,10],[],[0],[],[],[],[]⟩)] [(11,⟨[0,9,10],[],[0],[],[],[],[]⟩)] [(11,yajy yjUy (yery g g.N))] [] [] [] [] []
theorem yJQy [Fuel]:yaky (yrmy yeBy).C:=ct_of (P:=Tryz.prog) (T:=T) (.cons yiLy (.cons yeTy .nil)) (by kernel_rfl)
noncomputable def ypRy:Code:=sub [1,1,1,1,1,1,1,1,0,0,0] yw1y
theorem yCsy (g:C_z33z) (n:Nat):yaoy (yrmy g) g.N ypRy yjUy (yery g) n:=by intro ps;unfold yery;split;exact .inr fun R K=>(by kernel_rfl);exact .inl fun R K=>rfl
theorem yyTy [Fuel]:yagy (yrmy yeBy) NN ypRy:=yaly yjUy (yery yeBy) (by kernel_rfl) yJQy (cuts0 (fun _=>rfl) (by kernel_rfl)) (fun ps R K=>by unfold yery;split <;> (try unfold z33z_L11) <;> rfl) (yCsy yeBy)
theorem yMdy (g:C_z33z):Same (yoqy (@z33z_ g)) (abody (yrmy g) Tryz.f127 yw1y 2 [] [.arr 9] g.N):=by intro args;unfold yoqy;split;exact .inr fun R k=>(by kernel_rfl);exact .inl fun R k=>rfl
theorem yJWy [Fuel]:Ok 127 (yoqy (@z33z _)):=yacy std (.cons yiLy (.cons yeTy .nil)) ⟨rfl,rfl,by kernel_rfl,rfl,rfl,rfl⟩ (yMdy yeBy) (cutsL (fun _=>rfl) (.cons yyTy .nil) (by kernel_rfl)) Tryz.func127 (by kernel_rfl) (by kernel_rfl)
abbrev yrzy:Type 1:=List UInt8→List UInt8→{R:Type}→(List (List UInt8)→Option R)→Option R
structure C_z71z where
 N:Nat
 z33z:yypy
def z71z_ (g:C_z71z) (a1 a2:List UInt8) {R:Type} (k0:List (List UInt8)→Option R):Option R :=
 (g.z33z a1 a2 0 (-1) (fun r3=>k0 r3))
noncomputable def yDMy [Fuel]:C_z71z:=⟨NN,@z33z _⟩
noncomputable def z71z [Fuel]:yrzy:=@z71z_ yDMy
def yk7y (g:yrzy):Spec A:=fun args=>match args with | [.d (.str a1),.d (.str a2)]=>fun k=>g a1 a2 (fun z0=>k (.arr 9 z0) [.undef,.undef]) | _=>fun _=>none
noncomputable def yLjy:Code:=(Tryz.f75.body).getD .skip
noncomputable def yNny (g:C_z71z):Env A:=mkE [(127,yoqy g.z33z)] [(7,[0])] [] [] [] [] [] [] [] []
theorem yLRy (g:C_z71z):Same (yk7y (@z71z_ g)) (abody (yNny g) Tryz.f75 yLjy 1 [] [.arr 9] g.N):=by intro args;unfold yk7y;split;exact .inr fun R k=>(by kernel_rfl);exact .inl fun R k=>rfl
theorem ytBy [Fuel]:Ok 75 (yk7y (@z71z _)):=yacy std (.cons yJWy .nil) ⟨rfl,rfl,by kernel_rfl,rfl,rfl,rfl⟩ (yLRy yDMy) (cuts0 (fun _=>rfl) (by kernel_rfl)) Tryz.func75 (by kernel_rfl) (by kernel_rfl)
abbrev yj9y:Type 1:=List UInt8→{R:Type}→(List (List UInt8)→Bool→Option R)→Option R
structure C_kit_Lines where
 N:Nat
 z70z:yu7y
 z71z:yrzy
def yigy (g:C_kit_Lines) (a1:List UInt8) {R:Type} (k0:List (List UInt8)→Bool→Option R):Option R :=
 (bif (a1 == []) then k0 [] true else (g.z70z a1 [10] (fun r2 r3=>(g.z71z r2 [10] (fun r4=>k0 r4 r3)))))
noncomputable def yexy [Fuel]:C_kit_Lines:=⟨NN,@z70z _,@z71z _⟩
noncomputable def kit_Lines [Fuel]:yj9y:=@yigy yexy
def yfQy (g:yj9y):Spec A:=fun args=>match args with | [.d (.str a1)]=>fun k=>g a1 (fun z0 z1=>k (.tup [.arr 9 z0,.d (.bool z1)]) [.undef]) | _=>fun _=>none
noncomputable def yIyy:Code:=(Tryz.f34.body).getD .skip
noncomputable def yzjy (g:C_kit_Lines):Env A:=mkE [(74,yo4y g.z70z),(75,yk7y g.z71z)] [(14,[0])] [] [] [] [] [] [] [] []
theorem yvmy (g:C_kit_Lines):Same (yfQy (@yigy g)) (abody (yzjy g) Tryz.f34 yIyy 1 [] [.arr 9,.asis] g.N):=by intro args;unfold yfQy;split;exact .inr fun R k=>(by kernel_rfl);exact .inl fun R k=>rfl
theorem ynPy [Fuel]:Ok 34 (yfQy (@kit_Lines _)):=yacy std (.cons yIjy (.cons ytBy .nil)) ⟨rfl,rfl,by kernel_rfl,rfl,rfl,rfl⟩ (yvmy yexy) (cuts0 (fun _=>rfl) (by kernel_rfl)) Tryz.func34 (by kernel_rfl) (by kernel_rfl)
abbrev yj1y:Type 1:=List UInt8→{R:Type}→(List (List UInt8)→Bool→Option R)→Option R
structure C_kit_Words where
 N:Nat
 z71z:yrzy
def ycfy (g:C_kit_Words):Nat→Int→Int→List (List UInt8)→{R:Type}→(Bool→List (List UInt8)→Option R)→(List (List UInt8)→Option R)→Option R
 | 0,_,_,_,_,_,_=>none
 | n + 1,v3,v4,v5,_,e0,e1=>(bif (decide (v4 < v3)) then (inr v5 v4 (at_ v5 v4 fun x7=>(bif (x7 == []) then e0 false v5 else ycfy g n v3 (w64 (v4 + 1)) v5 e0 e1))) else e1 v5)
def yqJy (g:C_kit_Words) (a1:List UInt8) {R:Type} (k0:List (List UInt8)→Bool→Option R):Option R :=
 (g.z71z a1 [32] (fun r2=>(ycfy g g.N (r2.length:Int) 0 r2 (fun e8 e9=>k0 [] e8) (fun e10=>k0 e10 true))))
noncomputable def ybUy [Fuel]:C_kit_Words:=⟨NN,@z71z _⟩
noncomputable def kit_Words [Fuel]:yj1y:=@yqJy ybUy
def ygoy (g:yj1y):Spec A:=fun args=>match args with | [.d (.str a1)]=>fun k=>g a1 (fun z0 z1=>k (.tup [.arr 9 z0,.d (.bool z1)]) [.undef]) | _=>fun _=>none
def yfSy:SSt:=mkSh 19 1 [(4,.own 9 0),(9,.own 9 0),(10,.int .i64),(11,.int .i64)] [(0,.row 9)]
def ycxy (g:C_kit_Words) (n:Nat):LPT A:=fun ps=>match ps with | [.d (.int .i64 p1),.d (.int .i64 p2),.d (.sl 9 p3)]=>fun K=>ycfy g n p1 p2 p3 (fun z0 z1=>K .ret (mkSt 19 1 [(2,.d .nsl),(3,.d (.bool z0)),(4,.own 9 0)] [(0,some (.row 9 z1))])) (fun z0=>K (.exit 0) (mkSt 19 1 [(4,.own 9 0)] [(0,some (.row 9 z0))])) | _=>fun _=>none
noncomputable def yAry:Code:=(Tryz.f35.body).getD .skip
noncomputable def yhfy (g:C_kit_Words):Env A:=mkE [(75,yk7y g.z71z)] [(8,[0])] [(3,⟨[4,9,10,11],[],[0],[],[],[],[]⟩)] [(3,⟨[2,3,4],[],[0],[],[],[],[]⟩)] [(3,yajy yfSy (ycxy g g.N))] [] [] [] [] []
theorem yxzy [Fuel]:yaky (yhfy ybUy).C:=ct_of (P:=Tryz.prog) (T:=T) (.cons ytBy .nil) (by kernel_rfl)
noncomputable def yjzy:Code:=sub [1,1,0,1,0,0] yAry
theorem ytxy (g:C_kit_Words) (n:Nat):yaoy (yhfy g) g.N yjzy yfSy (ycxy g) n:=by intro ps;unfold ycxy;split;exact .inr fun R K=>(by kernel_rfl);exact .inl fun R K=>rfl
theorem ysgy [Fuel]:yagy (yhfy ybUy) NN yjzy:=yaly yfSy (ycxy ybUy) (by kernel_rfl) yxzy (cuts0 (fun _=>rfl) (by kernel_rfl)) (fun ps R K=>by unfold ycxy;split <;> (try unfold ycfy) <;> rfl) (ytxy ybUy)
theorem yxVy (g:C_kit_Words):Same (ygoy (@yqJy g)) (abody (yhfy g) Tryz.f35 yAry 1 [] [.arr 9,.asis] g.N):=by intro args;unfold ygoy;split;exact .inr fun R k=>(by kernel_rfl);exact .inl fun R k=>rfl
theorem ywCy [Fuel]:Ok 35 (ygoy (@kit_Words _)):=yacy std (.cons ytBy .nil) ⟨rfl,rfl,by kernel_rfl,rfl,rfl,rfl⟩ (yxVy ybUy) (cutsL (fun _=>rfl) (.cons ysgy .nil) (by kernel_rfl)) Tryz.func35 (by kernel_rfl) (by kernel_rfl)
abbrev yvxy:Type 1:=List UInt8→List UInt8→{R:Type}→(Bool→Option R)→Option R
def z73z_ (g:Nat) (a1 a2:List UInt8) {R:Type} (k0:Bool→Option R):Option R :=
 (bif (decide ((a1.length:Int) ≥ (a2.length:Int))) then (bif (decide (0≤(a2.length:Int))&&decide ((a2.length:Int)≤(a1.length:Int))) then k0 ((a1.take ((a2.length:Int):Int).toNat) == a2) else none) else k0 false)
noncomputable def z73z [Fuel]:yvxy:=@z73z_ NN
def yphy (g:yvxy):Spec A:=fun args=>match args with | [.d (.str a1),.d (.str a2)]=>fun k=>g a1 a2 (fun z0=>k (.d (.bool z0)) [.undef,.undef]) | _=>fun _=>none
noncomputable def yGby:Code:=(Tryz.f237.body).getD .skip
noncomputable def yNey (g:Nat):Env A:=mkE [] [] [] [] [] [] [] [] [] []
theorem yJvy (g:Nat):Same (yphy (@z73z_ g)) (abody (yNey g) Tryz.f237 yGby 0 [] [.asis] g):=by intro args;unfold yphy;split;exact .inr fun R k=>(by kernel_rfl);exact .inl fun R k=>rfl
theorem yIwy [Fuel]:Ok 237 (yphy (@z73z _)):=yacy std .nil ⟨rfl,rfl,by kernel_rfl,rfl,rfl,rfl⟩ (yJvy NN) (cuts0 (fun _=>rfl) (by kernel_rfl)) Tryz.func237 (by kernel_rfl) (by kernel_rfl)
abbrev yyDy:Type 1:=List UInt8→List UInt8→{R:Type}→(List UInt8→Bool→Option R)→Option R
structure C_z60z where
 N:Nat
 z73z:yvxy
def z60z_ (g:C_z60z) (a1 a2:List UInt8) {R:Type} (k0:List UInt8→Bool→Option R):Option R :=
 (g.z73z a1 a2 (fun r3=>(bif (!r3) then k0 a1 false else (bif (decide (0≤(a2.length:Int))&&decide ((a2.length:Int)≤(a1.length:Int))) then k0 (a1.drop ((a2.length:Int):Int).toNat) true else none))))
noncomputable def yr0y [Fuel]:C_z60z:=⟨NN,@z73z _⟩
noncomputable def z60z [Fuel]:yyDy:=@z60z_ yr0y
def yoKy (g:yyDy):Spec A:=fun args=>match args with | [.d (.str a1),.d (.str a2)]=>fun k=>g a1 a2 (fun z0 z1=>k (.tup [.d (.str z0),.d (.bool z1)]) [.undef,.undef]) | _=>fun _=>none
noncomputable def yGEy:Code:=(Tryz.f192.body).getD .skip
noncomputable def yMjy (g:C_z60z):Env A:=mkE [(237,yphy g.z73z)] [] [] [] [] [] [] [] [] []
theorem yIxy (g:C_z60z):Same (yoKy (@z60z_ g)) (abody (yMjy g) Tryz.f192 yGEy 0 [] [.asis,.asis] g.N):=by intro args;unfold yoKy;split;exact .inr fun R k=>(by kernel_rfl);exact .inl fun R k=>rfl
theorem yJfy [Fuel]:Ok 192 (yoKy (@z60z _)):=yacy std (.cons yIwy .nil) ⟨rfl,rfl,by kernel_rfl,rfl,rfl,rfl⟩ (yIxy yr0y) (cuts0 (fun _=>rfl) (by kernel_rfl)) Tryz.func192 (by kernel_rfl) (by kernel_rfl)
abbrev yyEy:Type 1:=List UInt8→List UInt8→{R:Type}→(List UInt8→Bool→Option R)→Option R
structure C_z68z where
 N:Nat
 z60z:yyDy
def z68z_ (g:C_z68z) (a1 a2:List UInt8) {R:Type} (k0:List UInt8→Bool→Option R):Option R :=
 (g.z60z a1 a2 (fun r3 r4=>k0 r3 r4))
noncomputable def yERy [Fuel]:C_z68z:=⟨NN,@z60z _⟩
noncomputable def z68z [Fuel]:yyEy:=@z68z_ yERy
def ypfy (g:yyEy):Spec A:=fun args=>match args with | [.d (.str a1),.d (.str a2)]=>fun k=>g a1 a2 (fun z0 z1=>k (.tup [.d (.str z0),.d (.bool z1)]) [.undef,.undef]) | _=>fun _=>none
noncomputable def yHuy:Code:=(Tryz.f128.body).getD .skip
noncomputable def yN3y (g:C_z68z):Env A:=mkE [(192,yoKy g.z60z)] [] [] [] [] [] [] [] [] []
theorem yI5y (g:C_z68z):Same (ypfy (@z68z_ g)) (abody (yN3y g) Tryz.f128 yHuy 0 [] [.asis,.asis] g.N):=by intro args;unfold ypfy;split;exact .inr fun R k=>(by kernel_rfl);exact .inl fun R k=>rfl
theorem yKRy [Fuel]:Ok 128 (ypfy (@z68z _)):=yacy std (.cons yJfy .nil) ⟨rfl,rfl,by kernel_rfl,rfl,rfl,rfl⟩ (yI5y yERy) (cuts0 (fun _=>rfl) (by kernel_rfl)) Tryz.func128 (by kernel_rfl) (by kernel_rfl)
abbrev ygFy:Type 1:=List UInt8→{R:Type}→(Int→Option R)→Option R
def strconv_Atoi [Fuel]:ygFy:=@yqUy
def yjAy (g:ygFy):Spec A:=yi3y g
theorem yq0y [Fuel]:Ok 130 (yjAy (@strconv_Atoi _)):=⟨ytEy (yDBy rfl (fun s n w h0 h1=>(Any.strconv_Atoi Tryz.lays172 s n h0 h1 w).mono (fun e w h=>⟨h.1,_,h.2⟩))),yyjy,enters_of (fn:=Tryz.f130) Tryz.func130 (by kernel_rfl) (by kernel_rfl)⟩
abbrev yfPy:Type 1:=List UInt8→Int→{R:Type}→(Int→Bool→Option R)→Option R
structure C_kit_Number where
 N:Nat
 z68z:yyEy
 strings_Trim:yc2y
 strconv_Atoi:ygFy
def yhay (g:C_kit_Number) (a1:List UInt8) (a2:Int) {R:Type} (k0:Int→Bool→Option R):Option R :=
 (g.z68z a1 [45] (fun r3 r4=>(bif (r3 == []) then k0 0 false else (bif (decide ((r3.length:Int) > a2)) then k0 0 false else (g.strings_Trim r3 [48,49,50,51,52,53,54,55,56,57] (fun r5=>(bif (!(r5 == [])) then k0 0 false else (at_ r3 0 fun x6=>(bif ((x6.toNat:Int) == 48) then (bif (decide ((r3.length:Int) > 1)) then k0 0 false else (bif r4 then k0 0 false else (g.strconv_Atoi r3 (fun r7=>(bif r4 then k0 (w64 (0 - r7)) true else k0 r7 true))))) else (g.strconv_Atoi r3 (fun r8=>(bif r4 then k0 (w64 (0 - r8)) true else k0 r8 true))))))))))))
noncomputable def ycTy [Fuel]:C_kit_Number:=⟨NN,@z68z _,@strings_Trim _,@strconv_Atoi _⟩
noncomputable def kit_Number [Fuel]:yfPy:=@yhay ycTy
def ydjy (g:yfPy):Spec A:=fun args=>match args with | [.d (.str a1),.d (.int .i64 a2)]=>fun k=>g a1 a2 (fun z0 z1=>k (.tup [.d (.int .i64 z0),.d (.bool z1)]) [.undef,.undef]) | _=>fun _=>none
noncomputable def yIRy:Code:=(Tryz.f76.body).getD .skip
noncomputable def yxKy (g:C_kit_Number):Env A:=mkE [(128,ypfy g.z68z),(129,ydEy g.strings_Trim),(130,yjAy g.strconv_Atoi)] [] [] [] [] [] [] [] [] []
theorem yuFy (g:C_kit_Number):Same (ydjy (@yhay g)) (abody (yxKy g) Tryz.f76 yIRy 0 [] [.asis,.asis] g.N):=by intro args;unfold ydjy;split;exact .inr fun R k=>(by kernel_rfl);exact .inl fun R k=>rfl
theorem yhRy [Fuel]:Ok 76 (ydjy (@kit_Number _)):=yacy std (.cons yKRy (.cons yfwy (.cons yq0y .nil))) ⟨rfl,rfl,by kernel_rfl,rfl,rfl,rfl⟩ (yuFy ycTy) (cuts0 (fun _=>rfl) (by kernel_rfl)) Tryz.func76 (by kernel_rfl) (by kernel_rfl)
abbrev yr3y:Type 1:=List (List UInt8)→{R:Type}→(List Int→Bool→Option R)→Option R
structure C_z48z where
 N:Nat
 kit_Number:yfPy
def z48z_L3 (g:C_z48z):Nat→List (List UInt8)→Int→Int→List Int→{R:Type}→(Bool→List Int→Option R)→(List Int→Option R)→Option R
 | 0,_,_,_,_,_,_,_=>none
 | n + 1,v2,v3,v4,v5,_,e0,e1=>(bif (decide (v4 < v3)) then (get_ v2 v4 fun x9=>(g.kit_Number x9 15 (fun r10 r11=>(bif (!r11) then e0 false v5 else (bif (decide ((v5.length + [r10].length) * 8≤yady)) then z48z_L3 g n v2 v3 (w64 (v4 + 1)) (v5++[r10]) e0 e1 else none))))) else e1 v5)
def z48z_ (g:C_z48z) (a1:List (List UInt8)) {R:Type} (k0:List Int→Bool→Option R):Option R :=
 (z48z_L3 g g.N a1 (a1.length:Int) 0 [] (fun e12 e13=>k0 [] e12) (fun e14=>k0 e14 true))
noncomputable def yhry [Fuel]:C_z48z:=⟨NN,@kit_Number _⟩
noncomputable def z48z [Fuel]:yr3y:=@z48z_ yhry
def ykEy (g:yr3y):Spec A:=fun args=>match args with | [.d (.sl 9 a1)]=>fun k=>g a1 (fun z0 z1=>k (.tup [.arr 3 z0,.d (.bool z1)]) [.undef]) | _=>fun _=>none
def ylVy:SSt:=mkSh 28 3 [(4,.own 3 0),(9,.sl 9),(10,.int .i64),(11,.int .i64)] [(0,.row 3)]
def yggy (g:C_z48z) (n:Nat):LPT A:=fun ps=>match ps with | [.d (.sl 9 p1),.d (.int .i64 p2),.d (.int .i64 p3),.d (.sl 3 p4)]=>fun K=>z48z_L3 g n p1 p2 p3 p4 (fun z0 z1=>K .ret (mkSt 28 3 [(2,.d .nsl),(3,.d (.bool z0)),(4,.own 3 0)] [(0,some (.row 3 z1))])) (fun z0=>K (.exit 0) (mkSt 28 3 [(4,.own 3 0)] [(0,some (.row 3 z0))])) | _=>fun _=>none
noncomputable def yBKy:Code:=(Tryz.f36.body).getD .skip
noncomputable def ysPy (g:C_z48z):Env A:=mkE [(76,ydjy g.kit_Number)] [(24,[1]),(25,[2])] [(3,⟨[4,9,10,11],[(4,3,0)],[],[],[],[],[]⟩)] [(3,⟨[2,3,4],[],[0],[],[],[],[]⟩)] [(3,yajy ylVy (yggy g g.N))] [] [] [] [] []
theorem yI1y [Fuel]:yaky (ysPy yhry).C:=ct_of (P:=Tryz.prog) (T:=T) (.cons yhRy .nil) (by kernel_rfl)
noncomputable def yrAy:Code:=sub [1,1,0,1,0,0] yBKy
theorem yFSy (g:C_z48z) (n:Nat):yaoy (ysPy g) g.N yrAy ylVy (yggy g) n:=by intro ps;unfold yggy;split;exact .inr fun R K=>(by kernel_rfl);exact .inl fun R K=>rfl
theorem yB0y [Fuel]:yagy (ysPy yhry) NN yrAy:=yaly ylVy (yggy yhry) (by kernel_rfl) yI1y (cuts0 (fun _=>rfl) (by kernel_rfl)) (fun ps R K=>by unfold yggy;split <;> (try unfold z48z_L3) <;> rfl) (yFSy yhry)
theorem yLMy (g:C_z48z):Same (ykEy (@z48z_ g)) (abody (ysPy g) Tryz.f36 yBKy 3 [] [.arr 3,.asis] g.N):=by intro args;unfold ykEy;split;exact .inr fun R k=>(by kernel_rfl);exact .inl fun R k=>rfl
theorem yAky [Fuel]:Ok 36 (ykEy (@z48z _)):=yacy std (.cons yhRy .nil) ⟨rfl,rfl,by kernel_rfl,rfl,rfl,rfl⟩ (yLMy yhry) (cutsL (fun _=>rfl) (.cons yB0y .nil) (by kernel_rfl)) Tryz.func36 (by kernel_rfl) (by kernel_rfl)
abbrev yrdy:Type 1:=List (List UInt8)→List UInt8→{R:Type}→(Int→Option R)→Option R
def z26z_L2 (g:Nat):Nat→List (List UInt8)→List UInt8→Int→Int→{R:Type}→(Int→Option R)→Option R→Option R
 | 0,_,_,_,_,_,_,_=>none
 | n + 1,v3,v4,v5,v6,_,e0,e1=>(bif (decide (v6 < v5)) then (get_ v3 v6 fun x8=>(bif (v4 == x8) then e0 v6 else z26z_L2 g n v3 v4 v5 (w64 (v6 + 1)) e0 e1)) else e1)
def z26z_ (g:Nat) (a1:List (List UInt8)) (a2:List UInt8) {R:Type} (k0:Int→Option R):Option R :=
 (z26z_L2 g g a1 a2 (a1.length:Int) 0 (fun e9=>k0 e9) (k0 (-1)))
noncomputable def z26z [Fuel]:yrdy:=@z26z_ NN
def ykZy (g:yrdy):Spec A:=fun args=>match args with | [.d (.sl 9 a1),.d (.str a2)]=>fun k=>g a1 a2 (fun z0=>k (.d (.int .i64 z0)) [.undef,.undef]) | _=>fun _=>none
def ylAy:SSt:=mkSh 19 0 [(0,.sl 9),(1,.str),(7,.int .i64),(8,.int .i64)] []
def yf8y (g:Nat) (n:Nat):LPT A:=fun ps=>match ps with | [.d (.sl 9 p1),.d (.str p2),.d (.int .i64 p3),.d (.int .i64 p4)]=>fun K=>z26z_L2 g n p1 p2 p3 p4 (fun z0=>K .ret (mkSt 19 0 [(4,.d (.int .i64 z0))] [])) (K (.exit 0) (mkSt 19 0 [] [])) | _=>fun _=>none
noncomputable def yxWy:Code:=(Tryz.f102.body).getD .skip
noncomputable def ysdy (g:Nat):Env A:=mkE [] [] [(2,⟨[0,1,7,8],[],[],[],[],[],[]⟩)] [(2,⟨[4],[],[],[],[],[],[]⟩)] [(2,yajy ylAy (yf8y g g))] [] [] [] [] []
theorem yIHy [Fuel]:yaky (ysdy NN).C:=ct_of (P:=Tryz.prog) (T:=T) .nil (by kernel_rfl)
noncomputable def yszy:Code:=sub [1,0,1,0,0] yxWy
theorem yFmy (g:Nat) (n:Nat):yaoy (ysdy g) g yszy ylAy (yf8y g) n:=by intro ps;unfold yf8y;split;exact .inr fun R K=>(by kernel_rfl);exact .inl fun R K=>rfl
theorem yCYy [Fuel]:yagy (ysdy NN) NN yszy:=yaly ylAy (yf8y NN) (by kernel_rfl) yIHy (cuts0 (fun _=>rfl) (by kernel_rfl)) (fun ps R K=>by unfold yf8y;split <;> (try unfold z26z_L2) <;> rfl) (yFmy NN)
theorem yJEy (g:Nat):Same (ykZy (@z26z_ g)) (abody (ysdy g) Tryz.f102 yxWy 0 [] [.asis] g):=by intro args;unfold ykZy;split;exact .inr fun R k=>(by kernel_rfl);exact .inl fun R k=>rfl
theorem yASy [Fuel]:Ok 102 (ykZy (@z26z _)):=yacy std .nil ⟨rfl,rfl,by kernel_rfl,rfl,rfl,rfl⟩ (yJEy NN) (cutsL (fun _=>rfl) (.cons yCYy .nil) (by kernel_rfl)) Tryz.func102 (by kernel_rfl) (by kernel_rfl)
abbrev yiDy:Type 1:=List UInt8→{R:Type}→(List UInt8→Option R)→Option R
def yhby (g:Nat) (a1:List UInt8) {R:Type} (k0:List UInt8→Option R):Option R :=
 (bif (a1 == [45]) then k0 [] else k0 a1)
noncomputable def kit_Undash [Fuel]:yiDy:=@yhby NN
def yeHy (g:yiDy):Spec A:=fun args=>match args with | [.d (.str a1)]=>fun k=>g a1 (fun z0=>k (.d (.str z0)) [.undef]) | _=>fun _=>none
noncomputable def yHjy:Code:=(Tryz.f165.body).getD .skip
noncomputable def yw5y (g:Nat):Env A:=mkE [] [] [] [] [] [] [] [] [] []
theorem yuBy (g:Nat):Same (yeHy (@yhby g)) (abody (yw5y g) Tryz.f165 yHjy 0 [] [.asis] g):=by intro args;unfold yeHy;split;exact .inr fun R k=>(by kernel_rfl);exact .inl fun R k=>rfl
theorem yuPy [Fuel]:Ok 165 (yeHy (@kit_Undash _)):=yacy std .nil ⟨rfl,rfl,by kernel_rfl,rfl,rfl,rfl⟩ (yuBy NN) (cuts0 (fun _=>rfl) (by kernel_rfl)) Tryz.func165 (by kernel_rfl) (by kernel_rfl)
abbrev yxoy:Type 1:=List (List UInt8)→{R:Type}→(G_Contact→Bool→Option R)→Option R
structure C_z69z where
 N:Nat
 z48z:yr3y
 z26z:yrdy
 z89z:yrDy
 kit_Undash:yiDy
def z69z_ (g:C_z69z) (a1:List (List UInt8)) {R:Type} (k0:G_Contact→Bool→Option R):Option R :=
 (bif ((a1.length:Int) != 8) then k0 (⟨0,0,[],[],0,0,[],[]⟩:G_Contact) false else (at_ a1 1 fun x2=>(g.z89z (fun r3=>(g.z26z r3 x2 (fun r4=>(at_ a1 0 fun x5=>(at_ a1 4 fun x6=>(at_ a1 6 fun x7=>(g.z48z [x5,x6,x7] (fun r8 r9=>(bif (!r9) then k0 (⟨0,0,[],[],0,0,[],[]⟩:G_Contact) false else (bif (decide (r4 < 1)) then k0 (⟨0,0,[],[],0,0,[],[]⟩:G_Contact) false else (inr r8 0 (at_ r8 0 fun x10=>(at_ a1 2 fun x11=>(at_ a1 3 fun x12=>(inr r8 1 (at_ r8 1 fun x13=>(at_ a1 5 fun x14=>(inr r8 2 (at_ r8 2 fun x15=>(at_ a1 7 fun x16=>(g.kit_Undash x14 (fun r17=>(g.kit_Undash x16 (fun r18=>k0 (⟨x10,r4,x11,x12,x13,x15,r17,r18⟩:G_Contact) true)))))))))))))))))))))))))))
noncomputable def ydOy [Fuel]:C_z69z:=⟨NN,@z48z _,@z26z _,@z89z _,@kit_Undash _⟩
noncomputable def z69z [Fuel]:yxoy:=@z69z_ ydOy
def yo3y (g:yxoy):Spec A:=fun args=>match args with | [.d (.sl 9 a1)]=>fun k=>g a1 (fun z0 z1=>k (.tup [.agg [.d (.int .i64 z0.f_At),.d (.int .i64 z0.f_Mode),.d (.str z0.f_Band),.d (.str z0.f_Call),.d (.int .i64 z0.f_Sent),.d (.int .i64 z0.f_Heard),.d (.str z0.f_Gave),.d (.str z0.f_Got)],.d (.bool z1)]) [.undef]) | _=>fun _=>none
noncomputable def yGYy:Code:=(Tryz.f103.body).getD .skip
noncomputable def yMDy (g:C_z69z):Env A:=mkE [(36,ykEy g.z48z),(102,ykZy g.z26z),(163,ykiy g.z89z),(165,yeHy g.kit_Undash)] [(2,[0]),(11,[1]),(26,[2]),(27,[3])] [] [] [] [] [] [] [] []
theorem yK2y (g:C_z69z):Same (yo3y (@z69z_ g)) (abody (yMDy g) Tryz.f103 yGYy 4 [] [.asis,.asis] g.N):=by intro args;unfold yo3y;split;exact .inr fun R k=>(by kernel_rfl);exact .inl fun R k=>rfl
theorem yKZy [Fuel]:Ok 103 (yo3y (@z69z _)):=yacy std (.cons yAky (.cons yASy (.cons yAWy (.cons yuPy .nil)))) ⟨rfl,rfl,by kernel_rfl,rfl,rfl,rfl⟩ (yK2y ydOy) (cuts0 (fun _=>rfl) (by kernel_rfl)) Tryz.func103 (by kernel_rfl) (by kernel_rfl)
abbrev yvLy:Type 1:=List UInt8→{R:Type}→(G_Deed→Bool→Option R)→Option R
structure C_z79z where
 N:Nat
 kit_Words:yj1y
 z48z:yr3y
 kit_Number:yfPy
 z88z:ysqy
 z26z:yrdy
 z69z:yxoy
def z79z_ (g:C_z79z) (a1:List UInt8) {R:Type} (k0:G_Deed→Bool→Option R):Option R :=
 (g.kit_Words a1 (fun r2 r3=>(bif (!r3) then k0 (⟨[],0,0,0,(⟨0,0,[],[],0,0,[],[]⟩:G_Contact),[],[],0⟩:G_Deed) false else (bif (decide ((r2.length:Int)≤4)) then k0 (⟨[],0,0,0,(⟨0,0,[],[],0,0,[],[]⟩:G_Contact),[],[],0⟩:G_Deed) false else (bif (decide (0≤1)&&(decide (1≤3)&&decide (3≤(r2.length:Int)))) then (g.z48z ((r2.take (3:Int).toNat).drop (1:Int).toNat) (fun r4 r5=>(bif (!r5) then k0 (⟨[],0,0,0,(⟨0,0,[],[],0,0,[],[]⟩:G_Contact),[],[],0⟩:G_Deed) false else (inr r2 0 (at_ r2 0 fun x6=>(inr r4 0 (at_ r4 0 fun x7=>(inr r4 1 (at_ r4 1 fun x8=>(inr r2 3 (at_ r2 3 fun x9=>(g.z88z (fun r10=>(g.z26z r10 x9 (fun r11=>(bif (decide (0≤4)&&decide (4≤(r2.length:Int))) then (bif (r11 == 1) then (g.z69z (r2.drop (4:Int).toNat) (fun r12 r13=>k0 (⟨x6,x7,x8,r11,r12,[],[],0⟩:G_Deed) r13)) else (bif (r11 == 2) then (bif (((r2.drop (4:Int).toNat).length:Int) == 1) then (at_ (r2.drop (4:Int).toNat) 0 fun x14=>k0 (⟨x6,x7,x8,r11,(⟨0,0,[],[],0,0,[],[]⟩:G_Contact),x14,[],0⟩:G_Deed) r5) else (bif (r11 == 3) then (bif (((r2.drop (4:Int).toNat).length:Int) == 1) then (at_ (r2.drop (4:Int).toNat) 0 fun x15=>(g.kit_Number x15 15 (fun r16 r17=>k0 (⟨x6,x7,x8,r11,(⟨0,0,[],[],r16,0,[],[]⟩:G_Contact),[],[],0⟩:G_Deed) r17))) else (bif (r11 == 5) then (bif (((r2.drop (4:Int).toNat).length:Int) == 2) then (at_ (r2.drop (4:Int).toNat) 0 fun x18=>(at_ (r2.drop (4:Int).toNat) 1 fun x19=>(g.kit_Number x19 15 (fun r20 r21=>k0 (⟨x6,x7,x8,r11,(⟨0,0,[],[],0,0,[],[]⟩:G_Contact),[],x18,r20⟩:G_Deed) r21)))) else k0 (⟨[],0,0,0,(⟨0,0,[],[],0,0,[],[]⟩:G_Contact),[],[],0⟩:G_Deed) false) else k0 (⟨[],0,0,0,(⟨0,0,[],[],0,0,[],[]⟩:G_Contact),[],[],0⟩:G_Deed) false)) else (bif (r11 == 4) then (bif (((r2.drop (4:Int).toNat).length:Int) == 1) then (at_ (r2.drop (4:Int).toNat) 0 fun x22=>(g.kit_Number x22 15 (fun r23 r24=>k0 (⟨x6,x7,x8,r11,(⟨0,0,[],[],r23,0,[],[]⟩:G_Contact),[],[],0⟩:G_Deed) r24))) else (bif (r11 == 5) then (bif (((r2.drop (4:Int).toNat).length:Int) == 2) then (at_ (r2.drop (4:Int).toNat) 0 fun x25=>(at_ (r2.drop (4:Int).toNat) 1 fun x26=>(g.kit_Number x26 15 (fun r27 r28=>k0 (⟨x6,x7,x8,r11,(⟨0,0,[],[],0,0,[],[]⟩:G_Contact),[],x25,r27⟩:G_Deed) r28)))) else k0 (⟨[],0,0,0,(⟨0,0,[],[],0,0,[],[]⟩:G_Contact),[],[],0⟩:G_Deed) false) else k0 (⟨[],0,0,0,(⟨0,0,[],[],0,0,[],[]⟩:G_Contact),[],[],0⟩:G_Deed) false)) else (bif (r11 == 5) then (bif (((r2.drop (4:Int).toNat).length:Int) == 2) then (at_ (r2.drop (4:Int).toNat) 0 fun x29=>(at_ (r2.drop (4:Int).toNat) 1 fun x30=>(g.kit_Number x30 15 (fun r31 r32=>k0 (⟨x6,x7,x8,r11,(⟨0,0,[],[],0,0,[],[]⟩:G_Contact),[],x29,r31⟩:G_Deed) r32)))) else k0 (⟨[],0,0,0,(⟨0,0,[],[],0,0,[],[]⟩:G_Contact),[],[],0⟩:G_Deed) false) else k0 (⟨[],0,0,0,(⟨0,0,[],[],0,0,[],[]⟩:G_Contact),[],[],0⟩:G_Deed) false)))) else (bif (r11 == 3) then (bif (((r2.drop (4:Int).toNat).length:Int) == 1) then (at_ (r2.drop (4:Int).toNat) 0 fun x33=>(g.kit_Number x33 15 (fun r34 r35=>k0 (⟨x6,x7,x8,r11,(⟨0,0,[],[],r34,0,[],[]⟩:G_Contact),[],[],0⟩:G_Deed) r35))) else (bif (r11 == 5) then (bif (((r2.drop (4:Int).toNat).length:Int) == 2) then (at_ (r2.drop (4:Int).toNat) 0 fun x36=>(at_ (r2.drop (4:Int).toNat) 1 fun x37=>(g.kit_Number x37 15 (fun r38 r39=>k0 (⟨x6,x7,x8,r11,(⟨0,0,[],[],0,0,[],[]⟩:G_Contact),[],x36,r38⟩:G_Deed) r39)))) else k0 (⟨[],0,0,0,(⟨0,0,[],[],0,0,[],[]⟩:G_Contact),[],[],0⟩:G_Deed) false) else k0 (⟨[],0,0,0,(⟨0,0,[],[],0,0,[],[]⟩:G_Contact),[],[],0⟩:G_Deed) false)) else (bif (r11 == 4) then (bif (((r2.drop (4:Int).toNat).length:Int) == 1) then (at_ (r2.drop (4:Int).toNat) 0 fun x40=>(g.kit_Number x40 15 (fun r41 r42=>k0 (⟨x6,x7,x8,r11,(⟨0,0,[],[],r41,0,[],[]⟩:G_Contact),[],[],0⟩:G_Deed) r42))) else (bif (r11 == 5) then (bif (((r2.drop (4:Int).toNat).length:Int) == 2) then (at_ (r2.drop (4:Int).toNat) 0 fun x43=>(at_ (r2.drop (4:Int).toNat) 1 fun x44=>(g.kit_Number x44 15 (fun r45 r46=>k0 (⟨x6,x7,x8,r11,(⟨0,0,[],[],0,0,[],[]⟩:G_Contact),[],x43,r45⟩:G_Deed) r46)))) else k0 (⟨[],0,0,0,(⟨0,0,[],[],0,0,[],[]⟩:G_Contact),[],[],0⟩:G_Deed) false) else k0 (⟨[],0,0,0,(⟨0,0,[],[],0,0,[],[]⟩:G_Contact),[],[],0⟩:G_Deed) false)) else (bif (r11 == 5) then (bif (((r2.drop (4:Int).toNat).length:Int) == 2) then (at_ (r2.drop (4:Int).toNat) 0 fun x47=>(at_ (r2.drop (4:Int).toNat) 1 fun x48=>(g.kit_Number x48 15 (fun r49 r50=>k0 (⟨x6,x7,x8,r11,(⟨0,0,[],[],0,0,[],[]⟩:G_Contact),[],x47,r49⟩:G_Deed) r50)))) else k0 (⟨[],0,0,0,(⟨0,0,[],[],0,0,[],[]⟩:G_Contact),[],[],0⟩:G_Deed) false) else k0 (⟨[],0,0,0,(⟨0,0,[],[],0,0,[],[]⟩:G_Contact),[],[],0⟩:G_Deed) false))))) else none)))))))))))))))) else none)))))
noncomputable def yeAy [Fuel]:C_z79z:=⟨NN,@kit_Words _,@z48z _,@kit_Number _,@z88z _,@z26z _,@z69z _⟩
noncomputable def z79z [Fuel]:yvLy:=@z79z_ yeAy
def yoHy (g:yvLy):Spec A:=fun args=>match args with | [.d (.str a1)]=>fun k=>g a1 (fun z0 z1=>k (.tup [.agg [.d (.str z0.f_Site),.d (.int .i64 z0.f_No),.d (.int .i64 z0.f_At),.d (.int .i64 z0.f_Kind),.d (.int .i64 z0.f_Contact.f_At),.d (.int .i64 z0.f_Contact.f_Mode),.d (.str z0.f_Contact.f_Band),.d (.str z0.f_Contact.f_Call),.d (.int .i64 z0.f_Contact.f_Sent),.d (.int .i64 z0.f_Contact.f_Heard),.d (.str z0.f_Contact.f_Gave),.d (.str z0.f_Contact.f_Got),.d (.str z0.f_Band),.d (.str z0.f_Of),.d (.int .i64 z0.f_Other)],.d (.bool z1)]) [.undef]) | _=>fun _=>none
noncomputable def yLUy:Code:=(Tryz.f48.body).getD .skip
noncomputable def yMry (g:C_z79z):Env A:=mkE [(35,ygoy g.kit_Words),(36,ykEy g.z48z),(76,ydjy g.kit_Number),(100,yk2y g.z88z),(102,ykZy g.z26z),(103,yo3y g.z69z)] [(2,[0]),(7,[3]),(11,[1]),(25,[2]),(40,[4])] [] [] [] [] [] [] [] []
theorem yJMy (g:C_z79z):Same (yoHy (@z79z_ g)) (abody (yMry g) Tryz.f48 yLUy 5 [] [.asis,.asis] g.N):=by intro args;unfold yoHy;split;exact .inr fun R k=>(by kernel_rfl);exact .inl fun R k=>rfl
theorem yAVy [Fuel]:Ok 48 (yoHy (@z79z _)):=yacy std (.cons ywCy (.cons yAky (.cons yhRy (.cons yAvy (.cons yASy (.cons yKZy .nil)))))) ⟨rfl,rfl,by kernel_rfl,rfl,rfl,rfl⟩ (yJMy yeAy) (cuts0 (fun _=>rfl) (by kernel_rfl)) Tryz.func48 (by kernel_rfl) (by kernel_rfl)
abbrev yl9y:Type 1:=List UInt8→{R:Type}→(List G_Deed→Int→Int→Option R)→Option R
structure C_net_Read where
 N:Nat
 kit_Lines:yj9y
 z10z:ykty
 z79z:yvLy
def yccy (g:C_net_Read):Nat→Bool→Int→Int→List (List UInt8)→List G_Deed→{R:Type}→(Int→Int→List G_Deed→Option R)→(List G_Deed→Option R)→Option R
 | 0,_,_,_,_,_,_,_,_=>none
 | n + 1,v4,v5,v6,v7,v8,_,e0,e1=>(bif (decide (v6 < v5)) then (inr v7 v6 (at_ v7 v6 fun x12=>(g.z79z x12 (fun r13 r14=>(bif (!r14) then e0 v6 9 v8 else (bif (!v4) then (bif (v6 == (w64 ((v7.length:Int) - 1))) then e0 v6 9 v8 else (bif (decide ((v8.length + [r13].length) * 176≤yady)) then yccy g n v4 v5 (w64 (v6 + 1)) v7 (v8++[r13]) e0 e1 else none)) else (bif (decide ((v8.length + [r13].length) * 176≤yady)) then yccy g n v4 v5 (w64 (v6 + 1)) v7 (v8++[r13]) e0 e1 else none))))))) else e1 v8)
def yjpy (g:C_net_Read) (a1:List UInt8) {R:Type} (k0:List G_Deed→Int→Int→Option R):Option R :=
 (bif (decide ((a1.length:Int) > 200000)) then k0 [] 0 2 else (g.kit_Lines a1 (fun r2 r3=>(yccy g g.N r3 (r2.length:Int) 0 r2 [] (fun e15 e16 e17=>k0 [] e15 e16) (fun e18=>(g.z10z e18 (fun r19=>(bif (r19 != 0) then k0 [] 0 r19 else k0 e18 0 0))))))))
noncomputable def ybEy [Fuel]:C_net_Read:=⟨NN,@kit_Lines _,@z10z _,@z79z _⟩
noncomputable def net_Read [Fuel]:yl9y:=@yjpy ybEy
def yhhy (g:yl9y):Spec A:=fun args=>match args with | [.d (.str a1)]=>fun k=>g a1 (fun z0 z1 z2=>k (.tup [.arr 51 z0,.d (.int .i64 z1),.d (.int .i64 z2)]) [.undef]) | _=>fun _=>none
def ygty:SSt:=mkSh 58 5 [(5,.own 9 0),(6,.bool),(7,.own 51 1),(21,.own 9 0),(22,.int .i64),(23,.int .i64)] [(0,.row 9),(1,.row 51)]
def yc4y (g:C_net_Read) (n:Nat):LPT A:=fun ps=>match ps with | [.d (.bool p1),.d (.int .i64 p2),.d (.int .i64 p3),.d (.sl 9 p4),.d (.sl 51 p5)]=>fun K=>yccy g n p1 p2 p3 p4 p5 (fun z0 z1 z2=>K .ret (mkSt 58 5 [(2,.d .nsl),(3,.d (.int .i64 z0)),(4,.d (.int .i64 z1)),(7,.own 51 1)] [(1,some (.row 51 z2))])) (fun z0=>K (.exit 0) (mkSt 58 5 [(7,.own 51 1)] [(1,some (.row 51 z0))])) | _=>fun _=>none
noncomputable def yBty:Code:=(Tryz.f18.body).getD .skip
noncomputable def yh8y (g:C_net_Read):Env A:=mkE [(34,yfQy g.kit_Lines),(43,ygPy g.z10z),(48,yoHy g.z79z)] [(10,[2]),(18,[0]),(49,[3]),(50,[4])] [(6,⟨[5,6,7,21,22,23],[(7,51,1)],[0],[],[],[],[]⟩)] [(6,⟨[2,3,4,7],[],[1],[],[],[],[]⟩)] [(6,yajy ygty (yc4y g g.N))] [] [] [] [] []
theorem yzPy [Fuel]:yaky (yh8y ybEy).C:=ct_of (P:=Tryz.prog) (T:=T) (.cons ynPy (.cons ygXy (.cons yAVy .nil))) (by kernel_rfl)
noncomputable def ykYy:Code:=sub [1,1,1,1,0,1,0,0] yBty
theorem yuHy (g:C_net_Read) (n:Nat):yaoy (yh8y g) g.N ykYy ygty (yc4y g) n:=by intro ps;unfold yc4y;split;exact .inr fun R K=>(by kernel_rfl);exact .inl fun R K=>rfl
theorem ys3y [Fuel]:yagy (yh8y ybEy) NN ykYy:=yaly ygty (yc4y ybEy) (by kernel_rfl) yzPy (cuts0 (fun _=>rfl) (by kernel_rfl)) (fun ps R K=>by unfold yc4y;split <;> (try unfold yccy) <;> rfl) (yuHy ybEy)
theorem yyRy (g:C_net_Read):Same (yhhy (@yjpy g)) (abody (yh8y g) Tryz.f18 yBty 5 [] [.arr 51,.asis,.asis] g.N):=by intro args;unfold yhhy;split;exact .inr fun R k=>(by kernel_rfl);exact .inl fun R k=>rfl
theorem ypuy [Fuel]:Ok 18 (yhhy (@net_Read _)):=yacy std (.cons ynPy (.cons ygXy (.cons yAVy .nil))) ⟨rfl,rfl,by kernel_rfl,rfl,rfl,rfl⟩ (yyRy ybEy) (cutsL (fun _=>rfl) (.cons ys3y .nil) (by kernel_rfl)) Tryz.func18 (by kernel_rfl) (by kernel_rfl)
end Go.Am
