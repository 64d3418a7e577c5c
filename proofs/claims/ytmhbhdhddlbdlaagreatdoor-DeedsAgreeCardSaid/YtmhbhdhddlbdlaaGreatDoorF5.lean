/- The functions of the program as Lean functions, each shown to be what the code computes, part 5. No condition: lemmas for the claim. -/
import Derived.Test.YtmhbhdhddlbdlaaGreatDoorF0
import Derived.Test.YtmhbhdhddlbdlaaGreatDoorFSh
import Derived.Test.YtmhbhdhddlbdlaaGreatDoorF1
import Derived.Test.YtmhbhdhddlbdlaaGreatDoorF2
import Derived.Test.YtmhbhdhddlbdlaaGreatDoorF4
set_option linter.unusedVariables false
set_option maxRecDepth 100000
namespace Go.Am
open Go Go.Proofs
abbrev yr6y:Type 1:=List UInt8→{R:Type}→(Bool→Option R)→Option R
structure C_z85z where
 N:Nat
 z51z:ysCy
def z85z_ (g:C_z85z) (a1:List UInt8) {R:Type} (k0:Bool→Option R):Option R :=
 (g.z51z a1 (fun r2 r3=>(bif r3 then (bif (decide (r2 > 0)) then k0 (decide ((a1.length:Int)≤4)) else k0 false) else k0 false)))
noncomputable def yEay [Fuel]:C_z85z:=⟨NN,@z51z _⟩
noncomputable def z85z [Fuel]:yr6y:=@z85z_ yEay
def ylby (g:yr6y):Spec A:=fun args=>match args with | [.d (.str a1)]=>fun k=>g a1 (fun z0=>k (.d (.bool z0)) [.undef]) | _=>fun _=>none
noncomputable def yGSy:Code:=(Tryz.f175.body).getD .skip
noncomputable def yM6y (g:C_z85z):Env A:=mkE [(225,ykKy g.z51z)] [] [] [] [] [] [] [] [] []
theorem yJhy (g:C_z85z):Same (ylby (@z85z_ g)) (abody (yM6y g) Tryz.f175 yGSy 0 [] [.asis] g.N):=by intro args;unfold ylby;split;exact .inr fun R k=>(by kernel_rfl);exact .inl fun R k=>rfl
theorem yAQy [Fuel]:Ok 175 (ylby (@z85z _)):=yacy std (.cons yACy .nil) ⟨rfl,rfl,by kernel_rfl,rfl,rfl,rfl⟩ (yJhy yEay) (cuts0 (fun _=>rfl) (by kernel_rfl)) Tryz.func175 (by kernel_rfl) (by kernel_rfl)
abbrev ykby:Type 1:=List UInt8→{R:Type}→(Int→List UInt8→Bool→Option R)→Option R
structure C_call_tail where
 N:Nat
 z85z:yr6y
 z91z:ysfy
def yqSy (g:C_call_tail) (a1:List UInt8) {R:Type} (k0:Int→List UInt8→Bool→Option R):Option R :=
 (bif (a1 == [112]) then k0 3 [] true else (bif (a1 == [109]) then k0 4 [] true else (bif (a1 == [109,109]) then k0 5 [] true else (bif (a1 == [97,109]) then k0 6 [] true else (bif ((a1.length:Int) == 1) then (at_ a1 0 fun x2=>(g.z91z (x2.toNat:Int) (fun r3=>(bif r3 then k0 2 a1 true else (g.z85z a1 (fun r4=>k0 1 a1 r4)))))) else (g.z85z a1 (fun r5=>k0 1 a1 r5)))))))
noncomputable def ypqy [Fuel]:C_call_tail:=⟨NN,@z85z _,@z91z _⟩
noncomputable def call_tail [Fuel]:ykby:=@yqSy ypqy
def yfuy (g:ykby):Spec A:=fun args=>match args with | [.d (.str a1)]=>fun k=>g a1 (fun z0 z1 z2=>k (.tup [.d (.int .i64 z0),.d (.str z1),.d (.bool z2)]) [.undef]) | _=>fun _=>none
noncomputable def yF3y:Code:=(Tryz.f176.body).getD .skip
noncomputable def yzgy (g:C_call_tail):Env A:=mkE [(175,ylby g.z85z),(226,yk4y g.z91z)] [] [] [] [] [] [] [] [] []
theorem yxfy (g:C_call_tail):Same (yfuy (@yqSy g)) (abody (yzgy g) Tryz.f176 yF3y 0 [] [.asis,.asis,.asis] g.N):=by intro args;unfold yfuy;split;exact .inr fun R k=>(by kernel_rfl);exact .inl fun R k=>rfl
theorem yyAy [Fuel]:Ok 176 (yfuy (@call_tail _)):=yacy std (.cons yAQy (.cons ytcy .nil)) ⟨rfl,rfl,by kernel_rfl,rfl,rfl,rfl⟩ (yxfy ypqy) (cuts0 (fun _=>rfl) (by kernel_rfl)) Tryz.func176 (by kernel_rfl) (by kernel_rfl)
abbrev yfmy:Type 1:=List UInt8→{R:Type}→(G_Parts→Bool→Option R)→Option R
structure C_call_Parts where
 N:Nat
 z35z:ysJy
 call_based:yiWy
 z85z:yr6y
 call_tail:ykby
def ypPy (g:C_call_Parts) (a1:List UInt8) {R:Type} (k0:G_Parts→Bool→Option R):Option R :=
 (bif (decide ((a1.length:Int) > 14)) then k0 (⟨[],[],[],0,[]⟩:G_Parts) false else (g.call_based a1 (fun r2 r3=>(bif r3 then k0 r2 true else (g.z35z a1 [47] (fun r4 r5 r6=>(bif (!r6) then k0 (⟨[],[],[],0,[]⟩:G_Parts) false else (g.call_based r5 (fun r7 r8=>(bif r8 then (g.z85z r4 (fun r9=>(bif r9 then k0 (⟨r7.f_Base,r7.f_Prefix,r7.f_Suffix,1,r4⟩:G_Parts) true else (g.call_based r4 (fun r10 r11=>(g.call_tail r5 (fun r12 r13 r14=>(bif (!r11) then k0 (⟨[],[],[],0,[]⟩:G_Parts) false else (bif (!r14) then k0 (⟨[],[],[],0,[]⟩:G_Parts) false else k0 (⟨r10.f_Base,r10.f_Prefix,r10.f_Suffix,r12,r13⟩:G_Parts) true))))))))) else (g.call_based r4 (fun r15 r16=>(g.call_tail r5 (fun r17 r18 r19=>(bif (!r16) then k0 (⟨[],[],[],0,[]⟩:G_Parts) false else (bif (!r19) then k0 (⟨[],[],[],0,[]⟩:G_Parts) false else k0 (⟨r15.f_Base,r15.f_Prefix,r15.f_Suffix,r17,r18⟩:G_Parts) true))))))))))))))))
noncomputable def ynLy [Fuel]:C_call_Parts:=⟨NN,@z35z _,@call_based _,@z85z _,@call_tail _⟩
noncomputable def call_Parts [Fuel]:yfmy:=@ypPy ynLy
def ydhy (g:yfmy):Spec A:=fun args=>match args with | [.d (.str a1)]=>fun k=>g a1 (fun z0 z1=>k (.tup [.agg [.d (.str z0.f_Base),.d (.str z0.f_Prefix),.d (.str z0.f_Suffix),.d (.int .i64 z0.f_Kind),.d (.str z0.f_Added)],.d (.bool z1)]) [.undef]) | _=>fun _=>none
noncomputable def yHYy:Code:=(Tryz.f110.body).getD .skip
noncomputable def yvuy (g:C_call_Parts):Env A:=mkE [(169,ykWy g.z35z),(174,yeLy g.call_based),(175,ylby g.z85z),(176,yfuy g.call_tail)] [(2,[0]),(4,[1]),(9,[2]),(11,[3])] [] [] [] [] [] [] [] []
theorem yuJy (g:C_call_Parts):Same (ydhy (@ypPy g)) (abody (yvuy g) Tryz.f110 yHYy 4 [] [.asis,.asis] g.N):=by intro args;unfold ydhy;split;exact .inr fun R k=>(by kernel_rfl);exact .inl fun R k=>rfl
theorem ymty [Fuel]:Ok 110 (ydhy (@call_Parts _)):=yacy std (.cons yAIy (.cons yu2y (.cons yAQy (.cons yyAy .nil)))) ⟨rfl,rfl,by kernel_rfl,rfl,rfl,rfl⟩ (yuJy ynLy) (cuts0 (fun _=>rfl) (by kernel_rfl)) Tryz.func110 (by kernel_rfl) (by kernel_rfl)
abbrev yjEy:Type 1:=List UInt8→{R:Type}→(Bool→Option R)→Option R
structure C_call_Is where
 N:Nat
 call_Parts:yfmy
def yw3y (g:C_call_Is) (a1:List UInt8) {R:Type} (k0:Bool→Option R):Option R :=
 (g.call_Parts a1 (fun r2 r3=>k0 r3))
noncomputable def yuay [Fuel]:C_call_Is:=⟨NN,@call_Parts _⟩
noncomputable def call_Is [Fuel]:yjEy:=@yw3y yuay
def yghy (g:yjEy):Spec A:=fun args=>match args with | [.d (.str a1)]=>fun k=>g a1 (fun z0=>k (.d (.bool z0)) [.undef]) | _=>fun _=>none
noncomputable def yLqy:Code:=(Tryz.f64.body).getD .skip
noncomputable def yELy (g:C_call_Is):Env A:=mkE [(110,ydhy g.call_Parts)] [(3,[0])] [] [] [] [] [] [] [] []
theorem yCGy (g:C_call_Is):Same (yghy (@yw3y g)) (abody (yELy g) Tryz.f64 yLqy 1 [] [.asis] g.N):=by intro args;unfold yghy;split;exact .inr fun R k=>(by kernel_rfl);exact .inl fun R k=>rfl
theorem yiey [Fuel]:Ok 64 (yghy (@call_Is _)):=yacy std (.cons ymty .nil) ⟨rfl,rfl,by kernel_rfl,rfl,rfl,rfl⟩ (yCGy yuay) (cuts0 (fun _=>rfl) (by kernel_rfl)) Tryz.func64 (by kernel_rfl) (by kernel_rfl)
abbrev yiwy:Type 1:=List UInt8→{R:Type}→(Bool→Option R)→Option R
structure C_kit_IsName where
 N:Nat
 kit_IsKey:ybDy
def yjRy (g:C_kit_IsName) (a1:List UInt8) {R:Type} (k0:Bool→Option R):Option R :=
 (bif (a1 == []) then k0 true else (g.kit_IsKey a1 (fun r2=>k0 r2)))
noncomputable def yiPy [Fuel]:C_kit_IsName:=⟨NN,@kit_IsKey _⟩
noncomputable def kit_IsName [Fuel]:yiwy:=@yjRy yiPy
def yeCy (g:yiwy):Spec A:=fun args=>match args with | [.d (.str a1)]=>fun k=>g a1 (fun z0=>k (.d (.bool z0)) [.undef]) | _=>fun _=>none
noncomputable def yHRy:Code:=(Tryz.f202.body).getD .skip
noncomputable def ywty (g:C_kit_IsName):Env A:=mkE [(80,ybiy g.kit_IsKey)] [] [] [] [] [] [] [] [] []
theorem yuXy (g:C_kit_IsName):Same (yeCy (@yjRy g)) (abody (ywty g) Tryz.f202 yHRy 0 [] [.asis] g.N):=by intro args;unfold yeCy;split;exact .inr fun R k=>(by kernel_rfl);exact .inl fun R k=>rfl
theorem yuTy [Fuel]:Ok 202 (yeCy (@kit_IsName _)):=yacy std (.cons yaVy .nil) ⟨rfl,rfl,by kernel_rfl,rfl,rfl,rfl⟩ (yuXy yiPy) (cuts0 (fun _=>rfl) (by kernel_rfl)) Tryz.func202 (by kernel_rfl) (by kernel_rfl)
abbrev yrgy:Type 1:=G_Contact→{R:Type}→(Int→Option R)→Option R
structure C_z58z where
 N:Nat
 z54z:ykCy
 z45z:yfTy
 call_Is:yjEy
 kit_IsKey:ybDy
 kit_IsMode:yd0y
 kit_IsName:yiwy
def z58z_ (g:C_z58z) (a1:G_Contact) {R:Type} (k0:Int→Option R):Option R :=
 (g.z54z a1.f_At (fun r2=>(bif (!r2) then k0 1 else (g.kit_IsMode a1.f_Mode (fun r3=>(bif (!r3) then k0 4 else (g.kit_IsKey a1.f_Band (fun r4=>(bif (!r4) then k0 5 else (g.call_Is a1.f_Call (fun r5=>(bif (!r5) then k0 3 else (g.z45z a1.f_Sent 0 99999 (fun r6=>(bif r6 then k0 1 else (g.z45z a1.f_Heard 0 99999 (fun r7=>(bif r7 then k0 1 else (g.kit_IsName a1.f_Gave (fun r8=>(bif (!r8) then k0 5 else (g.kit_IsName a1.f_Got (fun r9=>(bif (!r9) then k0 5 else k0 0))))))))))))))))))))))))
noncomputable def ywUy [Fuel]:C_z58z:=⟨NN,@z54z _,@z45z _,@call_Is _,@kit_IsKey _,@kit_IsMode _,@kit_IsName _⟩
noncomputable def z58z [Fuel]:yrgy:=@z58z_ ywUy
def ykgy (g:yrgy):Spec A:=fun args=>match args with | [.agg [.d (.int .i64 a1),.d (.int .i64 a2),.d (.str a3),.d (.str a4),.d (.int .i64 a5),.d (.int .i64 a6),.d (.str a7),.d (.str a8)]]=>fun k=>g ⟨a1,a2,a3,a4,a5,a6,a7,a8⟩ (fun z0=>k (.d (.int .i64 z0)) [.undef]) | _=>fun _=>none
noncomputable def yGQy:Code:=(Tryz.f131.body).getD .skip
noncomputable def yMHy (g:C_z58z):Env A:=mkE [(62,ygIy g.z54z),(63,ydvy g.z45z),(64,yghy g.call_Is),(80,ybiy g.kit_IsKey),(81,ycwy g.kit_IsMode),(202,yeCy g.kit_IsName)] [(1,[0])] [] [] [] [] [] [] [] []
theorem yK4y (g:C_z58z):Same (ykgy (@z58z_ g)) (abody (yMHy g) Tryz.f131 yGQy 1 [] [.asis] g.N):=by intro args;unfold ykgy;split;exact .inr fun R k=>(by kernel_rfl);exact .inl fun R k=>rfl
theorem ytmy [Fuel]:Ok 131 (ykgy (@z58z _)):=yacy std (.cons ypiy (.cons yfey (.cons yiey (.cons yaVy (.cons yeIy (.cons yuTy .nil)))))) ⟨rfl,rfl,by kernel_rfl,rfl,rfl,rfl⟩ (yK4y ywUy) (cuts0 (fun _=>rfl) (by kernel_rfl)) Tryz.func131 (by kernel_rfl) (by kernel_rfl)
abbrev yxly:Type 1:=G_Deed→{R:Type}→(Int→Option R)→Option R
structure C_z84z where
 N:Nat
 z58z:yrgy
def z84z_ (g:C_z84z) (a1:G_Deed) {R:Type} (k0:Int→Option R):Option R :=
 (g.z58z a1.f_Contact (fun r2=>(bif (r2 != 0) then k0 r2 else (bif (decide (a1.f_Contact.f_At > a1.f_At)) then k0 1 else k0 0))))
noncomputable def ym1y [Fuel]:C_z84z:=⟨NN,@z58z _⟩
noncomputable def z84z [Fuel]:yxly:=@z84z_ ym1y
def yoXy (g:yxly):Spec A:=fun args=>match args with | [.agg [.d (.str a1),.d (.int .i64 a2),.d (.int .i64 a3),.d (.int .i64 a4),.d (.int .i64 a5),.d (.int .i64 a6),.d (.str a7),.d (.str a8),.d (.int .i64 a9),.d (.int .i64 a10),.d (.str a11),.d (.str a12),.d (.str a13),.d (.str a14),.d (.int .i64 a15)]]=>fun k=>g ⟨a1,a2,a3,a4,⟨a5,a6,a7,a8,a9,a10,a11,a12⟩,a13,a14,a15⟩ (fun z0=>k (.d (.int .i64 z0)) [.undef]) | _=>fun _=>none
noncomputable def yGKy:Code:=(Tryz.f213.body).getD .skip
noncomputable def yMQy (g:C_z84z):Env A:=mkE [(131,ykgy g.z58z)] [(1,[0])] [] [] [] [] [] [] [] []
theorem yKHy (g:C_z84z):Same (yoXy (@z84z_ g)) (abody (yMQy g) Tryz.f213 yGKy 1 [] [.asis] g.N):=by intro args;unfold yoXy;split;exact .inr fun R k=>(by kernel_rfl);exact .inl fun R k=>rfl
theorem yKzy [Fuel]:Ok 213 (yoXy (@z84z _)):=yacy std (.cons ytmy .nil) ⟨rfl,rfl,by kernel_rfl,rfl,rfl,rfl⟩ (yKHy ym1y) (cuts0 (fun _=>rfl) (by kernel_rfl)) Tryz.func213 (by kernel_rfl) (by kernel_rfl)
abbrev yw2y:Type 1:=G_Deed→{R:Type}→(Int→Option R)→Option R
structure C_z50z where
 N:Nat
 z45z:yfTy
 kit_IsKey:ybDy
 z84z:yxly
def z50z_ (g:C_z50z) (a1:G_Deed) {R:Type} (k0:Int→Option R):Option R :=
 (bif (a1.f_Kind == 1) then (g.z84z a1 (fun r2=>k0 r2)) else (bif (a1.f_Kind == 2) then (g.kit_IsKey a1.f_Band (fun r3=>(bif (!r3) then k0 5 else k0 0))) else (bif (a1.f_Kind == 5) then (g.kit_IsKey a1.f_Of (fun r4=>(bif (!r4) then k0 5 else (g.z45z a1.f_Other 1 1000000 (fun r5=>(bif r5 then k0 1 else k0 0)))))) else (g.z45z a1.f_Contact.f_Sent 1 99999 (fun r6=>(bif r6 then k0 1 else k0 0))))))
noncomputable def ycoy [Fuel]:C_z50z:=⟨NN,@z45z _,@kit_IsKey _,@z84z _⟩
noncomputable def z50z [Fuel]:yw2y:=@z50z_ ycoy
def yoGy (g:yw2y):Spec A:=fun args=>match args with | [.agg [.d (.str a1),.d (.int .i64 a2),.d (.int .i64 a3),.d (.int .i64 a4),.d (.int .i64 a5),.d (.int .i64 a6),.d (.str a7),.d (.str a8),.d (.int .i64 a9),.d (.int .i64 a10),.d (.str a11),.d (.str a12),.d (.str a13),.d (.str a14),.d (.int .i64 a15)]]=>fun k=>g ⟨a1,a2,a3,a4,⟨a5,a6,a7,a8,a9,a10,a11,a12⟩,a13,a14,a15⟩ (fun z0=>k (.d (.int .i64 z0)) [.undef]) | _=>fun _=>none
noncomputable def yF0y:Code:=(Tryz.f153.body).getD .skip
noncomputable def yNUy (g:C_z50z):Env A:=mkE [(63,ydvy g.z45z),(80,ybiy g.kit_IsKey),(213,yoXy g.z84z)] [(1,[0])] [] [] [] [] [] [] [] []
theorem yILy (g:C_z50z):Same (yoGy (@z50z_ g)) (abody (yNUy g) Tryz.f153 yF0y 1 [] [.asis] g.N):=by intro args;unfold yoGy;split;exact .inr fun R k=>(by kernel_rfl);exact .inl fun R k=>rfl
theorem yK3y [Fuel]:Ok 153 (yoGy (@z50z _)):=yacy std (.cons yfey (.cons yaVy (.cons yKzy .nil))) ⟨rfl,rfl,by kernel_rfl,rfl,rfl,rfl⟩ (yILy ycoy) (cuts0 (fun _=>rfl) (by kernel_rfl)) Tryz.func153 (by kernel_rfl) (by kernel_rfl)
abbrev ymqy:Type 1:=G_Deed→{R:Type}→(Bool→Option R)→Option R
def ya2y (g:Nat) (a1:G_Deed) {R:Type} (k0:Bool→Option R):Option R :=
 (bif (a1.f_Kind == 3) then (bif (a1.f_Kind == 1) then (bif (a1.f_Kind == 2) then (bif (a1.f_Kind == 5) then k0 true else (bif (a1.f_Of == []) then k0 (a1.f_Other == 0) else k0 false)) else (bif (a1.f_Band == []) then (bif (a1.f_Kind == 5) then k0 true else (bif (a1.f_Of == []) then k0 (a1.f_Other == 0) else k0 false)) else k0 false)) else (bif (yaMy a1.f_Contact (⟨0,0,[],[],a1.f_Contact.f_Sent,0,[],[]⟩:G_Contact)) then (bif (a1.f_Kind == 2) then (bif (a1.f_Kind == 5) then k0 true else (bif (a1.f_Of == []) then k0 (a1.f_Other == 0) else k0 false)) else (bif (a1.f_Band == []) then (bif (a1.f_Kind == 5) then k0 true else (bif (a1.f_Of == []) then k0 (a1.f_Other == 0) else k0 false)) else k0 false)) else k0 false)) else (bif (a1.f_Kind == 4) then (bif (a1.f_Kind == 1) then (bif (a1.f_Kind == 2) then (bif (a1.f_Kind == 5) then k0 true else (bif (a1.f_Of == []) then k0 (a1.f_Other == 0) else k0 false)) else (bif (a1.f_Band == []) then (bif (a1.f_Kind == 5) then k0 true else (bif (a1.f_Of == []) then k0 (a1.f_Other == 0) else k0 false)) else k0 false)) else (bif (yaMy a1.f_Contact (⟨0,0,[],[],a1.f_Contact.f_Sent,0,[],[]⟩:G_Contact)) then (bif (a1.f_Kind == 2) then (bif (a1.f_Kind == 5) then k0 true else (bif (a1.f_Of == []) then k0 (a1.f_Other == 0) else k0 false)) else (bif (a1.f_Band == []) then (bif (a1.f_Kind == 5) then k0 true else (bif (a1.f_Of == []) then k0 (a1.f_Other == 0) else k0 false)) else k0 false)) else k0 false)) else (bif (a1.f_Kind == 1) then (bif (a1.f_Kind == 2) then (bif (a1.f_Kind == 5) then k0 true else (bif (a1.f_Of == []) then k0 (a1.f_Other == 0) else k0 false)) else (bif (a1.f_Band == []) then (bif (a1.f_Kind == 5) then k0 true else (bif (a1.f_Of == []) then k0 (a1.f_Other == 0) else k0 false)) else k0 false)) else (bif (yaMy a1.f_Contact (⟨0,0,[],[],0,0,[],[]⟩:G_Contact)) then (bif (a1.f_Kind == 2) then (bif (a1.f_Kind == 5) then k0 true else (bif (a1.f_Of == []) then k0 (a1.f_Other == 0) else k0 false)) else (bif (a1.f_Band == []) then (bif (a1.f_Kind == 5) then k0 true else (bif (a1.f_Of == []) then k0 (a1.f_Other == 0) else k0 false)) else k0 false)) else k0 false))))
noncomputable def net_idle [Fuel]:ymqy:=@ya2y NN
def yhiy (g:ymqy):Spec A:=fun args=>match args with | [.agg [.d (.str a1),.d (.int .i64 a2),.d (.int .i64 a3),.d (.int .i64 a4),.d (.int .i64 a5),.d (.int .i64 a6),.d (.str a7),.d (.str a8),.d (.int .i64 a9),.d (.int .i64 a10),.d (.str a11),.d (.str a12),.d (.str a13),.d (.str a14),.d (.int .i64 a15)]]=>fun k=>g ⟨a1,a2,a3,a4,⟨a5,a6,a7,a8,a9,a10,a11,a12⟩,a13,a14,a15⟩ (fun z0=>k (.d (.bool z0)) [.undef]) | _=>fun _=>none
noncomputable def yH3y:Code:=(Tryz.f154.body).getD .skip
noncomputable def yCey (g:Nat):Env A:=mkE [] [(1,[0]),(5,[1])] [] [] [] [] [] [] [] []
theorem yzoy (g:Nat):Same (yhiy (@ya2y g)) (abody (yCey g) Tryz.f154 yH3y 2 [] [.asis] g):=by intro args;unfold yhiy;split;exact .inr fun R k=>(by kernel_rfl);exact .inl fun R k=>rfl
theorem yzWy [Fuel]:Ok 154 (yhiy (@net_idle _)):=yacy std .nil ⟨rfl,rfl,by kernel_rfl,rfl,rfl,rfl⟩ (yzoy NN) (cuts0 (fun _=>rfl) (by kernel_rfl)) Tryz.func154 (by kernel_rfl) (by kernel_rfl)
abbrev yiGy:Type 1:=G_Deed→{R:Type}→(Int→Option R)→Option R
structure C_net_formed where
 N:Nat
 z54z:ykCy
 z45z:yfTy
 kit_IsKey:ybDy
 z50z:yw2y
 net_idle:ymqy
def yevy (g:C_net_formed) (a1:G_Deed) {R:Type} (k0:Int→Option R):Option R :=
 (g.kit_IsKey a1.f_Site (fun r2=>(bif (!r2) then k0 5 else (g.z45z a1.f_No 1 1000000 (fun r3=>(bif r3 then k0 1 else (g.z54z a1.f_At (fun r4=>(bif (!r4) then k0 1 else (g.z45z a1.f_Kind 1 5 (fun r5=>(bif r5 then k0 4 else (g.z50z a1 (fun r6=>(bif (r6 != 0) then k0 r6 else (g.net_idle a1 (fun r7=>(bif (!r7) then k0 3 else k0 0))))))))))))))))))
noncomputable def yb2y [Fuel]:C_net_formed:=⟨NN,@z54z _,@z45z _,@kit_IsKey _,@z50z _,@net_idle _⟩
noncomputable def net_formed [Fuel]:yiGy:=@yevy yb2y
def yeEy (g:yiGy):Spec A:=fun args=>match args with | [.agg [.d (.str a1),.d (.int .i64 a2),.d (.int .i64 a3),.d (.int .i64 a4),.d (.int .i64 a5),.d (.int .i64 a6),.d (.str a7),.d (.str a8),.d (.int .i64 a9),.d (.int .i64 a10),.d (.str a11),.d (.str a12),.d (.str a13),.d (.str a14),.d (.int .i64 a15)]]=>fun k=>g ⟨a1,a2,a3,a4,⟨a5,a6,a7,a8,a9,a10,a11,a12⟩,a13,a14,a15⟩ (fun z0=>k (.d (.int .i64 z0)) [.undef]) | _=>fun _=>none
noncomputable def yKgy:Code:=(Tryz.f97.body).getD .skip
noncomputable def yyuy (g:C_net_formed):Env A:=mkE [(62,ygIy g.z54z),(63,ydvy g.z45z),(80,ybiy g.kit_IsKey),(153,yoGy g.z50z),(154,yhiy g.net_idle)] [(1,[0])] [] [] [] [] [] [] [] []
theorem yuEy (g:C_net_formed):Same (yeEy (@yevy g)) (abody (yyuy g) Tryz.f97 yKgy 1 [] [.asis] g.N):=by intro args;unfold yeEy;split;exact .inr fun R k=>(by kernel_rfl);exact .inl fun R k=>rfl
theorem ymzy [Fuel]:Ok 97 (yeEy (@net_formed _)):=yacy std (.cons ypiy (.cons yfey (.cons yaVy (.cons yK3y (.cons yzWy .nil))))) ⟨rfl,rfl,by kernel_rfl,rfl,rfl,rfl⟩ (yuEy yb2y) (cuts0 (fun _=>rfl) (by kernel_rfl)) Tryz.func97 (by kernel_rfl) (by kernel_rfl)
abbrev yxRy:Type 1:=Int→{R:Type}→(Bool→Option R)→Option R
def z76z_ (g:Nat) (a1:Int) {R:Type} (k0:Bool→Option R):Option R :=
 k0 (a1 != a1)
noncomputable def z76z [Fuel]:yxRy:=@z76z_ NN
def ye8y (g:yxRy):Spec A:=fun args=>match args with | [.d (.int .i64 a1)]=>fun k=>g a1 (fun z0=>k (.d (.bool z0)) [.undef]) | _=>fun _=>none
noncomputable def yyqy:Code:=(Tryz.f121.body).getD .skip
noncomputable def yMmy (g:Nat):Env A:=mkE [] [] [] [] [] [] [] [] [] []
theorem yIAy (g:Nat):Same (ye8y (@z76z_ g)) (abody (yMmy g) Tryz.f121 yyqy 0 [] [.asis] g):=by intro args;unfold ye8y;split;exact .inr fun R k=>(by kernel_rfl);exact .inl fun R k=>rfl
theorem yKFy [Fuel]:Ok 121 (ye8y (@z76z _)):=yacy std .nil ⟨rfl,rfl,by kernel_rfl,rfl,rfl,rfl⟩ (yIAy NN) (cuts0 (fun _=>rfl) (by kernel_rfl)) Tryz.func121 (by kernel_rfl) (by kernel_rfl)
noncomputable def yIey (g:Nat):Env A:=mkED [] [] [] [] [] [] [] [] [] []
theorem yGFy (g:Nat):Same (ye8y (@z76z_ g)) (abody (yIey g) Tryz.f121 yyqy 0 [] [.asis] g):=by intro args;unfold ye8y;split;exact .inr fun R k=>(by kernel_rfl);exact .inl fun R k=>rfl
theorem yHFy [Fuel]:OkD 121 (ye8y (@z76z _)):=yacy stdD .nil ⟨rfl,rfl,by kernel_rfl,rfl,rfl,rfl⟩ (yGFy NN) (cuts0 (fun _=>rfl) (by kernel_rfl)) Tryz.func121 (by kernel_rfl) (by kernel_rfl)
abbrev ykwy:Type 1:=Int→Int→{R:Type}→(Int→Option R)→Option R
structure C_z24z where
 N:Nat
 z76z:yxRy
def z24z_ (g:C_z24z) (a1 a2:Int) {R:Type} (k0:Int→Option R):Option R :=
 (g.z76z a1 (fun r3=>(g.z76z a2 (fun r4=>(bif r3 then (bif r4 then k0 0 else k0 (-1)) else (bif r4 then k0 1 else (bif (decide (a1 < a2)) then k0 (-1) else (bif (decide (a1 > a2)) then k0 1 else k0 0))))))))
noncomputable def yrly [Fuel]:C_z24z:=⟨NN,@z76z _⟩
noncomputable def z24z [Fuel]:ykwy:=@z24z_ yrly
def ycdy (g:ykwy):Spec A:=fun args=>match args with | [.d (.int .i64 a1),.d (.int .i64 a2)]=>fun k=>g a1 a2 (fun z0=>k (.d (.int .i64 z0)) [.undef,.undef]) | _=>fun _=>none
noncomputable def yBny:Code:=(Tryz.f69.body).getD .skip
noncomputable def yM8y (g:C_z24z):Env A:=mkE [(121,ye8y g.z76z)] [] [] [] [] [] [] [] [] []
theorem yKSy (g:C_z24z):Same (ycdy (@z24z_ g)) (abody (yM8y g) Tryz.f69 yBny 0 [] [.asis] g.N):=by intro args;unfold ycdy;split;exact .inr fun R k=>(by kernel_rfl);exact .inl fun R k=>rfl
theorem yofy [Fuel]:Ok 69 (ycdy (@z24z _)):=yacy std (.cons yKFy .nil) ⟨rfl,rfl,by kernel_rfl,rfl,rfl,rfl⟩ (yKSy yrly) (cuts0 (fun _=>rfl) (by kernel_rfl)) Tryz.func69 (by kernel_rfl) (by kernel_rfl)
noncomputable def yLfy (g:C_z24z):Env A:=mkED [(121,ye8y g.z76z)] [] [] [] [] [] [] [] [] []
theorem yG6y (g:C_z24z):Same (ycdy (@z24z_ g)) (abody (yLfy g) Tryz.f69 yBny 0 [] [.asis] g.N):=by intro args;unfold ycdy;split;exact .inr fun R k=>(by kernel_rfl);exact .inl fun R k=>rfl
theorem yqcy [Fuel]:OkD 69 (ycdy (@z24z _)):=yacy stdD (.cons yHFy .nil) ⟨rfl,rfl,by kernel_rfl,rfl,rfl,rfl⟩ (yG6y yrly) (cuts0 (fun _=>rfl) (by kernel_rfl)) Tryz.func69 (by kernel_rfl) (by kernel_rfl)
abbrev yi8y:Type 1:=List Int→{R:Type}→(Int→Option R)→Option R
def z23z_L3 (g:Nat):Nat→Int→List Int→Int→Int→{R:Type}→(Int→Int→Option R)→(Int→Option R)→Option R
 | 0,_,_,_,_,_,_,_=>none
 | n + 1,v2,v3,v4,v5,_,e0,e1=>(bif (decide (v5 < v4)) then (get_ v3 v5 fun x7=>(bif (x7 != v2) then e0 x7 v2 else z23z_L3 g n v2 v3 v4 (w64 (v5 + 1)) e0 e1)) else e1 v2)
def z23z_ (g:Nat) (a1:List Int) {R:Type} (k0:Int→Option R):Option R :=
 (z23z_L3 g g 0 a1 (a1.length:Int) 0 (fun e8 e9=>k0 e8) (fun e10=>k0 e10))
noncomputable def z23z [Fuel]:yi8y:=@z23z_ NN
def yb3y (g:yi8y):Spec A:=fun args=>match args with | [.d (.sl 3 a1)]=>fun k=>g a1 (fun z0=>k (.d (.int .i64 z0)) [.undef]) | _=>fun _=>none
def yd9y:SSt:=mkSh 18 0 [(3,.int .i64),(6,.sl 3),(7,.int .i64),(8,.int .i64)] []
def ybTy (g:Nat) (n:Nat):LPT A:=fun ps=>match ps with | [.d (.int .i64 p1),.d (.sl 3 p2),.d (.int .i64 p3),.d (.int .i64 p4)]=>fun K=>z23z_L3 g n p1 p2 p3 p4 (fun z0 z1=>K .ret (mkSt 18 0 [(2,.d (.int .i64 z0)),(3,.d (.int .i64 z1))] [])) (fun z0=>K (.exit 0) (mkSt 18 0 [(3,.d (.int .i64 z0))] [])) | _=>fun _=>none
noncomputable def ytFy:Code:=(Tryz.f68.body).getD .skip
noncomputable def ysey (g:Nat):Env A:=mkE [] [] [(3,⟨[3,6,7,8],[],[],[],[],[],[]⟩)] [(3,⟨[2,3],[],[],[],[],[],[]⟩)] [(3,yajy yd9y (ybTy g g))] [] [] [] [] []
theorem yKOy [Fuel]:yaky (ysey NN).C:=ct_of (P:=Tryz.prog) (T:=T) .nil (by kernel_rfl)
noncomputable def yhXy:Code:=sub [1,1,0,1,0,0] ytFy
theorem yEGy (g:Nat) (n:Nat):yaoy (ysey g) g yhXy yd9y (ybTy g) n:=by intro ps;unfold ybTy;split;exact .inr fun R K=>(by kernel_rfl);exact .inl fun R K=>rfl
theorem yCKy [Fuel]:yagy (ysey NN) NN yhXy:=yaly yd9y (ybTy NN) (by kernel_rfl) yKOy (cuts0 (fun _=>rfl) (by kernel_rfl)) (fun ps R K=>by unfold ybTy;split <;> (try unfold z23z_L3) <;> rfl) (yEGy NN)
theorem yIOy (g:Nat):Same (yb3y (@z23z_ g)) (abody (ysey g) Tryz.f68 ytFy 0 [] [.asis] g):=by intro args;unfold yb3y;split;exact .inr fun R k=>(by kernel_rfl);exact .inl fun R k=>rfl
theorem yiky [Fuel]:Ok 68 (yb3y (@z23z _)):=yacy std .nil ⟨rfl,rfl,by kernel_rfl,rfl,rfl,rfl⟩ (yIOy NN) (cutsL (fun _=>rfl) (.cons yCKy .nil) (by kernel_rfl)) Tryz.func68 (by kernel_rfl) (by kernel_rfl)
noncomputable def yowy (g:Nat):Env A:=mkED [] [] [(3,⟨[3,6,7,8],[],[],[],[],[],[]⟩)] [(3,⟨[2,3],[],[],[],[],[],[]⟩)] [(3,yajy yd9y (ybTy g g))] [] [] [] [] []
theorem yF9y [Fuel]:yaky (yowy NN).C:=ct_of (P:=Tryz.prog) (T:=TD) .nil (by kernel_rfl)
theorem yDvy (g:Nat) (n:Nat):yaoy (yowy g) g yhXy yd9y (ybTy g) n:=by intro ps;unfold ybTy;split;exact .inr fun R K=>(by kernel_rfl);exact .inl fun R K=>rfl
theorem yy7y [Fuel]:yagy (yowy NN) NN yhXy:=yaly yd9y (ybTy NN) (by kernel_rfl) yF9y (cuts0 (fun _=>rfl) (by kernel_rfl)) (fun ps R K=>by unfold ybTy;split <;> (try unfold z23z_L3) <;> rfl) (yDvy NN)
theorem yGyy (g:Nat):Same (yb3y (@z23z_ g)) (abody (yowy g) Tryz.f68 ytFy 0 [] [.asis] g):=by intro args;unfold yb3y;split;exact .inr fun R k=>(by kernel_rfl);exact .inl fun R k=>rfl
theorem yqjy [Fuel]:OkD 68 (yb3y (@z23z _)):=yacy stdD .nil ⟨rfl,rfl,by kernel_rfl,rfl,rfl,rfl⟩ (yGyy NN) (cutsL (fun _=>rfl) (.cons yy7y .nil) (by kernel_rfl)) Tryz.func68 (by kernel_rfl) (by kernel_rfl)
abbrev yv9y:Type 1:=G_Deed→G_Deed→{R:Type}→(Int→Option R)→Option R
structure C_z43z where
 N:Nat
 z23z:yi8y
 z24z:ykwy
 strings_Compare:ya8y
def z43z_ (g:C_z43z) (a1 a2:G_Deed) {R:Type} (k0:Int→Option R):Option R :=
 (g.z24z a1.f_At a2.f_At (fun r3=>(g.strings_Compare a1.f_Site a2.f_Site (fun r4=>(g.z24z a1.f_No a2.f_No (fun r5=>(g.z23z [r3,r4,r5] (fun r6=>k0 r6))))))))
noncomputable def yryy [Fuel]:C_z43z:=⟨NN,@z23z _,@z24z _,@strings_Compare _⟩
noncomputable def z43z [Fuel]:yv9y:=@z43z_ yryy
def ye4y (g:yv9y):Spec A:=fun args=>match args with | [.agg [.d (.str a1),.d (.int .i64 a2),.d (.int .i64 a3),.d (.int .i64 a4),.d (.int .i64 a5),.d (.int .i64 a6),.d (.str a7),.d (.str a8),.d (.int .i64 a9),.d (.int .i64 a10),.d (.str a11),.d (.str a12),.d (.str a13),.d (.str a14),.d (.int .i64 a15)],.agg [.d (.str a16),.d (.int .i64 a17),.d (.int .i64 a18),.d (.int .i64 a19),.d (.int .i64 a20),.d (.int .i64 a21),.d (.str a22),.d (.str a23),.d (.int .i64 a24),.d (.int .i64 a25),.d (.str a26),.d (.str a27),.d (.str a28),.d (.str a29),.d (.int .i64 a30)]]=>fun k=>g ⟨a1,a2,a3,a4,⟨a5,a6,a7,a8,a9,a10,a11,a12⟩,a13,a14,a15⟩ ⟨a16,a17,a18,a19,⟨a20,a21,a22,a23,a24,a25,a26,a27⟩,a28,a29,a30⟩ (fun z0=>k (.d (.int .i64 z0)) [.undef,.undef]) | _=>fun _=>none
noncomputable def yBey:Code:=(Tryz.f46.body).getD .skip
noncomputable def yM2y (g:C_z43z):Env A:=mkE [(68,yb3y g.z23z),(69,ycdy g.z24z),(70,yaDy g.strings_Compare)] [(2,[0]),(3,[1]),(20,[2])] [] [] [] [] [] [] [] []
theorem yJJy (g:C_z43z):Same (ye4y (@z43z_ g)) (abody (yM2y g) Tryz.f46 yBey 3 [] [.asis] g.N):=by intro args;unfold ye4y;split;exact .inr fun R k=>(by kernel_rfl);exact .inl fun R k=>rfl
theorem yAzy [Fuel]:Ok 46 (ye4y (@z43z _)):=yacy std (.cons yiky (.cons yofy (.cons ybly .nil))) ⟨rfl,rfl,by kernel_rfl,rfl,rfl,rfl⟩ (yJJy yryy) (cuts0 (fun _=>rfl) (by kernel_rfl)) Tryz.func46 (by kernel_rfl) (by kernel_rfl)
noncomputable def yLAy (g:C_z43z):Env A:=mkED [(68,yb3y g.z23z),(69,ycdy g.z24z),(70,yaDy g.strings_Compare)] [(2,[0]),(3,[1]),(20,[2])] [] [] [] [] [] [] [] []
theorem yGCy (g:C_z43z):Same (ye4y (@z43z_ g)) (abody (yLAy g) Tryz.f46 yBey 3 [] [.asis] g.N):=by intro args;unfold ye4y;split;exact .inr fun R k=>(by kernel_rfl);exact .inl fun R k=>rfl
theorem ywzy [Fuel]:OkD 46 (ye4y (@z43z _)):=yacy stdD (.cons yqjy (.cons yqcy (.cons ydBy .nil))) ⟨rfl,rfl,by kernel_rfl,rfl,rfl,rfl⟩ (yGCy yryy) (cuts0 (fun _=>rfl) (by kernel_rfl)) Tryz.func46 (by kernel_rfl) (by kernel_rfl)
abbrev ykty:Type 1:=List G_Deed→{R:Type}→(Int→Option R)→Option R
structure C_z10z where
 N:Nat
 z43z:yv9y
 net_formed:yiGy
def z10z_L4 (g:C_z10z):Nat→List G_Deed→List G_Deed→Int→Int→{R:Type}→(List G_Deed→Int→Option R)→(List G_Deed→Option R)→Option R
 | 0,_,_,_,_,_,_,_=>none
 | n + 1,v2,v3,v4,v5,_,e0,e1=>(bif (decide (v5 < v4)) then (get_ v3 v5 fun x10=>(g.net_formed x10 (fun r11=>(bif (r11 != 0) then e0 v2 r11 else (bif (decide (v5 > 0)) then (get_ v2 (w64 (v5 - 1)) fun x12=>(g.z43z x12 x10 (fun r13=>(bif (decide (r13 ≥ 0)) then e0 v2 7 else z10z_L4 g n v2 v3 v4 (w64 (v5 + 1)) e0 e1)))) else z10z_L4 g n v2 v3 v4 (w64 (v5 + 1)) e0 e1))))) else e1 v2)
def z10z_L14 (g:C_z10z):Nat→List G_Deed→Int→Int→List (G_net_own×Bool)→{R:Type}→(Int→Option R)→Option R→Option R
 | 0,_,_,_,_,_,_,_=>none
 | n + 1,v17,v18,v19,v20,_,e0,e1=>(bif (decide (v19 < v18)) then (get_ v17 v19 fun x22=>(bif ((yaSy (⟨x22.f_Site,x22.f_No⟩:G_net_own) v20).getD false) then e0 6 else z10z_L14 g n v17 v18 (w64 (v19 + 1)) (yaQy (⟨x22.f_Site,x22.f_No⟩:G_net_own) true v20) e0 e1)) else e1)
def z10z_ (g:C_z10z) (a1:List G_Deed) {R:Type} (k0:Int→Option R):Option R :=
 (bif (decide ((a1.length:Int) > 2000)) then k0 2 else (z10z_L4 g g.N a1 a1 (a1.length:Int) 0 (fun e14 e15=>k0 e15) (fun e16=>(z10z_L14 g g.N e16 (e16.length:Int) 0 [] (fun e23=>k0 e23) (k0 0)))))
noncomputable def ycmy [Fuel]:C_z10z:=⟨NN,@z43z _,@net_formed _⟩
noncomputable def z10z [Fuel]:ykty:=@z10z_ ycmy
def ygPy (g:ykty):Spec A:=fun args=>match args with | [.d (.sl 51 a1)]=>fun k=>g a1 (fun z0=>k (.d (.int .i64 z0)) [.undef]) | _=>fun _=>none
def ympy:SSt:=mkSh 56 4 [(0,.sl 51),(13,.sl 51),(14,.int .i64),(15,.int .i64)] []
def yfRy (g:C_z10z) (n:Nat):LPT A:=fun ps=>match ps with | [.d (.sl 51 p1),.d (.sl 51 p2),.d (.int .i64 p3),.d (.int .i64 p4)]=>fun K=>z10z_L4 g n p1 p2 p3 p4 (fun z0 z1=>K .ret (mkSt 56 4 [(0,.d (.sl 51 z0)),(2,.d (.int .i64 z1))] [])) (fun z0=>K (.exit 0) (mkSt 56 4 [(0,.d (.sl 51 z0))] [])) | _=>fun _=>none
def yjJy:SSt:=mkSh 56 4 [(6,.mp 1),(39,.sl 51),(40,.int .i64),(41,.int .i64)] [(1,.mp 107 4)]
def yeiy (g:C_z10z) (n:Nat):LPT A:=fun ps=>match ps with | [.d (.sl 51 p1),.d (.int .i64 p2),.d (.int .i64 p3),.mp 107 4 p4]=>fun K=>z10z_L14 g n p1 p2 p3 p4 (fun z0=>K .ret (mkSt 56 4 [(2,.d (.int .i64 z0))] [])) (K (.exit 2) (mkSt 56 4 [] [])) | _=>fun _=>none
noncomputable def ytHy:Code:=(Tryz.f43.body).getD .skip
noncomputable def ykky (g:C_z10z):Env A:=mkE [(46,ye4y g.z43z),(97,yeEy g.net_formed)] [(4,[0]),(8,[2]),(9,[3]),(38,[1])] [(4,⟨[0,13,14,15],[],[],[],[],[],[]⟩),(14,⟨[6,39,40,41],[],[1],[],[],[],[]⟩)] [(4,⟨[0,2],[],[],[],[],[],[]⟩),(14,⟨[2],[],[],[],[],[],[]⟩)] [(4,yajy ympy (yfRy g g.N)),(14,yajy yjJy (yeiy g g.N))] [] [] [] [] []
theorem yA2y [Fuel]:yaky (ykky ycmy).C:=ct_of (P:=Tryz.prog) (T:=T) (.cons yAzy (.cons ymzy .nil)) (by kernel_rfl)
noncomputable def yqKy:Code:=sub [1,1,0,1,0,0] ytHy
theorem yE7y (g:C_z10z) (n:Nat):yaoy (ykky g) g.N yqKy ympy (yfRy g) n:=by intro ps;unfold yfRy;split;exact .inr fun R K=>(by kernel_rfl);exact .inl fun R K=>rfl
theorem yCJy [Fuel]:yagy (ykky ycmy) NN yqKy:=yaly ympy (yfRy ycmy) (by kernel_rfl) yA2y (cuts0 (fun _=>rfl) (by kernel_rfl)) (fun ps R K=>by unfold yfRy;split <;> (try unfold z10z_L4) <;> rfl) (yE7y ycmy)
noncomputable def ypFy:Code:=sub [1,1,1,1,0,1,0,0] ytHy
theorem yDwy (g:C_z10z) (n:Nat):yaoy (ykky g) g.N ypFy yjJy (yeiy g) n:=by intro ps;unfold yeiy;split;exact .inr fun R K=>(by kernel_rfl);exact .inl fun R K=>rfl
theorem yzmy [Fuel]:yagy (ykky ycmy) NN ypFy:=yaly yjJy (yeiy ycmy) (by kernel_rfl) yA2y (cuts0 (fun _=>rfl) (by kernel_rfl)) (fun ps R K=>by unfold yeiy;split <;> (try unfold z10z_L14) <;> rfl) (yDwy ycmy)
theorem yJdy (g:C_z10z):Same (ygPy (@z10z_ g)) (abody (ykky g) Tryz.f43 ytHy 4 [] [.asis] g.N):=by intro args;unfold ygPy;split;exact .inr fun R k=>(by kernel_rfl);exact .inl fun R k=>rfl
theorem ygXy [Fuel]:Ok 43 (ygPy (@z10z _)):=yacy std (.cons yAzy (.cons ymzy .nil)) ⟨rfl,rfl,by kernel_rfl,rfl,rfl,rfl⟩ (yJdy ycmy) (cutsL (fun _=>rfl) (.cons yCJy (.cons yzmy .nil)) (by kernel_rfl)) Tryz.func43 (by kernel_rfl) (by kernel_rfl)
abbrev ywgy:Type 1:=Int→{R:Type}→(List G_Deed→Option R)→Option R
def z75z [Fuel]:ywgy:=@yhsy G_Deed 176
def ykjy (g:ywgy):Spec A:=fun args=>match args with | [.d .nsl,.d (.int .i64 x1)]=>fun k=>g x1 (fun z=>k (.arr 51 z) [.undef,.undef]) | _=>fun _=>none
theorem yBTy [Fuel] (xs:Int) (R:Type) (k:IV A→List (IV A)→Option R):ykjy (@z75z _) [.d .nsl,.d (.int .i64 xs)] k = yhsy (α:=A 51) 176 xs (fun z=>k (.arr 51 z) [.undef,.undef]):=by kernel_rfl
theorem yA9y [Fuel] (args:List (IV A)) (R:Type) (k:IV A→List (IV A)→Option R) (h:∀ xs:Int,args≠[.d .nsl,.d (.int .i64 xs)]):ykjy (@z75z _) args k = none:=by unfold ykjy;split;exact absurd rfl (h _);rfl
theorem yAUy [Fuel]:Ok 98 (ykjy (@z75z _)):=⟨yJsy (yCOy rfl (tyOk Tryz.prog) (e:=51) (size:=15) (bytes:=176) (ty:=51) (by kernel_rfl) (fun w=>yMiy Tryz.grow98 w) (fun n w hn hb hm=>yNwy Tryz.grow98 Tryz.ti51 Tryz.zv51 (by kernel_rfl) (by kernel_rfl) 15 176 (by kernel_rfl) (by kernel_rfl) (by decide) (by kernel_rfl) n w hn hb hm)) yBTy yA9y,yKYy yBTy yA9y,enters_of (fn:=Tryz.f98) Tryz.func98 (by kernel_rfl) (by kernel_rfl)⟩
end Go.Am
