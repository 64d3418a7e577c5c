/- The functions of the program as Lean functions, each shown to be what the code computes, part 5. No condition: lemmas for the claim. -/
import Derived.Test.YtfmhkakoakcpgaaGreatDoorF0
import Derived.Test.YtfmhkakoakcpgaaGreatDoorFSh
import Derived.Test.YtfmhkakoakcpgaaGreatDoorF1
import Derived.Test.YtfmhkakoakcpgaaGreatDoorF2
import Derived.Test.YtfmhkakoakcpgaaGreatDoorF4
set_option linter.unusedVariables false
set_option maxRecDepth 100000
namespace Go.Am
open Go Go.Proofs
abbrev yfGy:Type 1:=List UInt8→{R:Type}→(G_Parts→Bool→Option R)→Option R
structure C_call_Parts where
 N:Nat
 call_based:yify
 z84z:ypky
 z78z:yqry
 call_tail:yiTy
def yoyy (g:C_call_Parts) (a1:List UInt8) {R:Type} (k0:G_Parts→Bool→Option R):Option R :=
 (bif (decide ((a1.length:Int) > 14)) then k0 (⟨[],[],[],0,[]⟩:G_Parts) false else (g.call_based a1 (fun r2 r3=>(bif r3 then k0 r2 true else (g.z84z a1 [47] (fun r4 r5 r6=>(bif (!r6) then k0 (⟨[],[],[],0,[]⟩:G_Parts) false else (g.call_based r5 (fun r7 r8=>(bif r8 then (g.z78z r4 (fun r9=>(bif r9 then k0 (⟨r7.f_Base,r7.f_Prefix,r7.f_Suffix,1,r4⟩:G_Parts) true else (g.call_based r4 (fun r10 r11=>(g.call_tail r5 (fun r12 r13 r14=>(bif (!r11) then k0 (⟨[],[],[],0,[]⟩:G_Parts) false else (bif (!r14) then k0 (⟨[],[],[],0,[]⟩:G_Parts) false else k0 (⟨r10.f_Base,r10.f_Prefix,r10.f_Suffix,r12,r13⟩:G_Parts) true))))))))) else (g.call_based r4 (fun r15 r16=>(g.call_tail r5 (fun r17 r18 r19=>(bif (!r16) then k0 (⟨[],[],[],0,[]⟩:G_Parts) false else (bif (!r19) then k0 (⟨[],[],[],0,[]⟩:G_Parts) false else k0 (⟨r15.f_Base,r15.f_Prefix,r15.f_Suffix,r17,r18⟩:G_Parts) true))))))))))))))))
noncomputable def ylIy [Fuel]:C_call_Parts:=⟨NN,@call_based _,@z84z _,@z78z _,@call_tail _⟩
noncomputable def call_Parts [Fuel]:yfGy:=@yoyy ylIy
def yc1y (g:yfGy):Spec A:=fun args=>match args with | [.d (.str a1)]=>fun k=>g a1 (fun z0 z1=>k (.tup [.agg [.d (.str z0.f_Base),.d (.str z0.f_Prefix),.d (.str z0.f_Suffix),.d (.int .i64 z0.f_Kind),.d (.str z0.f_Added)],.d (.bool z1)]) [.undef]) | _=>fun _=>none
noncomputable def yEBy:Code:=(Tryz.f104.body).getD .skip
noncomputable def yuiy (g:C_call_Parts):Env A:=mkE [(141,yegy g.call_based),(142,yjLy g.z84z),(143,yjBy g.z78z),(144,yfpy g.call_tail)] [(2,[0]),(4,[1]),(9,[2]),(11,[3])] [] [] [] [] [] [] [] []
theorem ytoy (g:C_call_Parts):Same (yc1y (@yoyy g)) (abody (yuiy g) Tryz.f104 yEBy 4 [] [.asis,.asis] g.N):=by intro args; unfold yc1y; split; exact .inr fun R k=>(by kernel_rfl); exact .inl fun R k=>rfl
theorem ylwy [Fuel]:Ok 104 (yc1y (@call_Parts _)):=yacy std (.cons ytmy (.cons yyry (.cons yyby (.cons ytSy .nil)))) ⟨rfl,rfl,by kernel_rfl,rfl,rfl,rfl⟩ (ytoy ylIy) (cuts0 (fun _=>rfl) (by kernel_rfl)) Tryz.func104 (by kernel_rfl) (by kernel_rfl)
abbrev yiCy:Type 1:=List UInt8→{R:Type}→(Bool→Option R)→Option R
structure C_call_Is where
 N:Nat
 call_Parts:yfGy
def ywwy (g:C_call_Is) (a1:List UInt8) {R:Type} (k0:Bool→Option R):Option R :=
 (g.call_Parts a1 (fun r2 r3=>k0 r3))
noncomputable def yszy [Fuel]:C_call_Is:=⟨NN,@call_Parts _⟩
noncomputable def call_Is [Fuel]:yiCy:=@ywwy yszy
def ye0y (g:yiCy):Spec A:=fun args=>match args with | [.d (.str a1)]=>fun k=>g a1 (fun z0=>k (.d (.bool z0)) [.undef]) | _=>fun _=>none
noncomputable def yGEy:Code:=(Tryz.f67.body).getD .skip
noncomputable def yDky (g:C_call_Is):Env A:=mkE [(104,yc1y g.call_Parts)] [(3,[0])] [] [] [] [] [] [] [] []
theorem yzMy (g:C_call_Is):Same (ye0y (@ywwy g)) (abody (yDky g) Tryz.f67 yGEy 1 [] [.asis] g.N):=by intro args; unfold ye0y; split; exact .inr fun R k=>(by kernel_rfl); exact .inl fun R k=>rfl
theorem yhiy [Fuel]:Ok 67 (ye0y (@call_Is _)):=yacy std (.cons ylwy .nil) ⟨rfl,rfl,by kernel_rfl,rfl,rfl,rfl⟩ (yzMy yszy) (cuts0 (fun _=>rfl) (by kernel_rfl)) Tryz.func67 (by kernel_rfl) (by kernel_rfl)
abbrev yh2y:Type 1:=List UInt8→{R:Type}→(Bool→Option R)→Option R
structure C_kit_IsName where
 N:Nat
 kit_IsKey:ybDy
def yi2y (g:C_kit_IsName) (a1:List UInt8) {R:Type} (k0:Bool→Option R):Option R :=
 (bif (a1 == []) then k0 true else (g.kit_IsKey a1 (fun r2=>k0 r2)))
noncomputable def yiey [Fuel]:C_kit_IsName:=⟨NN,@kit_IsKey _⟩
noncomputable def kit_IsName [Fuel]:yh2y:=@yi2y yiey
def yeoy (g:yh2y):Spec A:=fun args=>match args with | [.d (.str a1)]=>fun k=>g a1 (fun z0=>k (.d (.bool z0)) [.undef]) | _=>fun _=>none
noncomputable def yINy:Code:=(Tryz.f68.body).getD .skip
noncomputable def yvxy (g:C_kit_IsName):Env A:=mkE [(66,ybly g.kit_IsKey)] [] [] [] [] [] [] [] [] []
theorem ys4y (g:C_kit_IsName):Same (yeoy (@yi2y g)) (abody (yvxy g) Tryz.f68 yINy 0 [] [.asis] g.N):=by intro args; unfold yeoy; split; exact .inr fun R k=>(by kernel_rfl); exact .inl fun R k=>rfl
theorem ytqy [Fuel]:Ok 68 (yeoy (@kit_IsName _)):=yacy std (.cons yaXy .nil) ⟨rfl,rfl,by kernel_rfl,rfl,rfl,rfl⟩ (ys4y yiey) (cuts0 (fun _=>rfl) (by kernel_rfl)) Tryz.func68 (by kernel_rfl) (by kernel_rfl)
abbrev yq8y:Type 1:=G_Contact→{R:Type}→(Int→Option R)→Option R
structure C_z59z where
 N:Nat
 z50z:yh4y
 z49z:yfny
 kit_IsMode:ydwy
 kit_IsKey:ybDy
 call_Is:yiCy
 kit_IsName:yh2y
def z59z_ (g:C_z59z) (a1:G_Contact) {R:Type} (k0:Int→Option R):Option R :=
 (g.z50z a1.f_At (fun r2=>(bif (!r2) then k0 1 else (g.kit_IsMode a1.f_Mode (fun r3=>(bif (!r3) then k0 4 else (g.kit_IsKey a1.f_Band (fun r4=>(bif (!r4) then k0 5 else (g.call_Is a1.f_Call (fun r5=>(bif (!r5) then k0 3 else (g.z49z a1.f_Sent 0 99999 (fun r6=>(bif r6 then k0 1 else (g.z49z a1.f_Heard 0 99999 (fun r7=>(bif r7 then k0 1 else (g.kit_IsName a1.f_Gave (fun r8=>(bif (!r8) then k0 5 else (g.kit_IsName a1.f_Got (fun r9=>(bif (!r9) then k0 5 else k0 0))))))))))))))))))))))))
noncomputable def yvRy [Fuel]:C_z59z:=⟨NN,@z50z _,@z49z _,@kit_IsMode _,@kit_IsKey _,@call_Is _,@kit_IsName _⟩
noncomputable def z59z [Fuel]:yq8y:=@z59z_ yvRy
def yjgy (g:yq8y):Spec A:=fun args=>match args with | [.agg [.d (.int .i64 a1),.d (.int .i64 a2),.d (.str a3),.d (.str a4),.d (.int .i64 a5),.d (.int .i64 a6),.d (.str a7),.d (.str a8)]]=>fun k=>g ⟨a1,a2,a3,a4,a5,a6,a7,a8⟩ (fun z0=>k (.d (.int .i64 z0)) [.undef]) | _=>fun _=>none
noncomputable def yHQy:Code:=(Tryz.f33.body).getD .skip
noncomputable def yK0y (g:C_z59z):Env A:=mkE [(27,yeFy g.z50z),(60,yc8y g.z49z),(65,ycoy g.kit_IsMode),(66,ybly g.kit_IsKey),(67,ye0y g.call_Is),(68,yeoy g.kit_IsName)] [(1,[0])] [] [] [] [] [] [] [] []
theorem yGqy (g:C_z59z):Same (yjgy (@z59z_ g)) (abody (yK0y g) Tryz.f33 yHQy 1 [] [.asis] g.N):=by intro args; unfold yjgy; split; exact .inr fun R k=>(by kernel_rfl); exact .inl fun R k=>rfl
theorem yrQy [Fuel]:Ok 33 (yjgy (@z59z _)):=yacy std (.cons yhBy (.cons yeDy (.cons yemy (.cons yaXy (.cons yhiy (.cons ytqy .nil)))))) ⟨rfl,rfl,by kernel_rfl,rfl,rfl,rfl⟩ (yGqy yvRy) (cuts0 (fun _=>rfl) (by kernel_rfl)) Tryz.func33 (by kernel_rfl) (by kernel_rfl)
abbrev yvky:Type 1:=G_Deed→{R:Type}→(Int→Option R)→Option R
structure C_z85z where
 N:Nat
 z59z:yq8y
def z85z_ (g:C_z85z) (a1:G_Deed) {R:Type} (k0:Int→Option R):Option R :=
 (g.z59z a1.f_Contact (fun r2=>(bif (r2 != 0) then k0 r2 else (bif (decide (a1.f_Contact.f_At > a1.f_At)) then k0 1 else k0 0))))
noncomputable def ywGy [Fuel]:C_z85z:=⟨NN,@z59z _⟩
noncomputable def z85z [Fuel]:yvky:=@z85z_ ywGy
def ynRy (g:yvky):Spec A:=fun args=>match args with | [.agg [.d (.str a1),.d (.int .i64 a2),.d (.int .i64 a3),.d (.int .i64 a4),.d (.int .i64 a5),.d (.int .i64 a6),.d (.str a7),.d (.str a8),.d (.int .i64 a9),.d (.int .i64 a10),.d (.str a11),.d (.str a12),.d (.str a13),.d (.str a14),.d (.int .i64 a15)]]=>fun k=>g ⟨a1,a2,a3,a4,⟨a5,a6,a7,a8,a9,a10,a11,a12⟩,a13,a14,a15⟩ (fun z0=>k (.d (.int .i64 z0)) [.undef]) | _=>fun _=>none
noncomputable def yDIy:Code:=(Tryz.f126.body).getD .skip
noncomputable def yKPy (g:C_z85z):Env A:=mkE [(33,yjgy g.z59z)] [(1,[0])] [] [] [] [] [] [] [] []
theorem yGsy (g:C_z85z):Same (ynRy (@z85z_ g)) (abody (yKPy g) Tryz.f126 yDIy 1 [] [.asis] g.N):=by intro args; unfold ynRy; split; exact .inr fun R k=>(by kernel_rfl); exact .inl fun R k=>rfl
theorem yF8y [Fuel]:Ok 126 (ynRy (@z85z _)):=yacy std (.cons yrQy .nil) ⟨rfl,rfl,by kernel_rfl,rfl,rfl,rfl⟩ (yGsy ywGy) (cuts0 (fun _=>rfl) (by kernel_rfl)) Tryz.func126 (by kernel_rfl) (by kernel_rfl)
abbrev ywby:Type 1:=G_Deed→{R:Type}→(Int→Option R)→Option R
structure C_z67z where
 N:Nat
 z49z:yfny
 kit_IsKey:ybDy
 z85z:yvky
def z67z_ (g:C_z67z) (a1:G_Deed) {R:Type} (k0:Int→Option R):Option R :=
 (bif (a1.f_Kind == 1) then (g.z85z a1 (fun r2=>k0 r2)) else (bif (a1.f_Kind == 2) then (g.kit_IsKey a1.f_Band (fun r3=>(bif (!r3) then k0 5 else k0 0))) else (bif (a1.f_Kind == 5) then (g.kit_IsKey a1.f_Of (fun r4=>(bif (!r4) then k0 5 else (g.z49z a1.f_Other 1 1000000 (fun r5=>(bif r5 then k0 1 else k0 0)))))) else (g.z49z a1.f_Contact.f_Sent 1 99999 (fun r6=>(bif r6 then k0 1 else k0 0))))))
noncomputable def yhLy [Fuel]:C_z67z:=⟨NN,@z49z _,@kit_IsKey _,@z85z _⟩
noncomputable def z67z [Fuel]:ywby:=@z67z_ yhLy
def ym5y (g:ywby):Spec A:=fun args=>match args with | [.agg [.d (.str a1),.d (.int .i64 a2),.d (.int .i64 a3),.d (.int .i64 a4),.d (.int .i64 a5),.d (.int .i64 a6),.d (.str a7),.d (.str a8),.d (.int .i64 a9),.d (.int .i64 a10),.d (.str a11),.d (.str a12),.d (.str a13),.d (.str a14),.d (.int .i64 a15)]]=>fun k=>g ⟨a1,a2,a3,a4,⟨a5,a6,a7,a8,a9,a10,a11,a12⟩,a13,a14,a15⟩ (fun z0=>k (.d (.int .i64 z0)) [.undef]) | _=>fun _=>none
noncomputable def yJcy:Code:=(Tryz.f89.body).getD .skip
noncomputable def yKky (g:C_z67z):Env A:=mkE [(60,yc8y g.z49z),(66,ybly g.kit_IsKey),(126,ynRy g.z85z)] [(1,[0])] [] [] [] [] [] [] [] []
theorem yIKy (g:C_z67z):Same (ym5y (@z67z_ g)) (abody (yKky g) Tryz.f89 yJcy 1 [] [.asis] g.N):=by intro args; unfold ym5y; split; exact .inr fun R k=>(by kernel_rfl); exact .inl fun R k=>rfl
theorem yIay [Fuel]:Ok 89 (ym5y (@z67z _)):=yacy std (.cons yeDy (.cons yaXy (.cons yF8y .nil))) ⟨rfl,rfl,by kernel_rfl,rfl,rfl,rfl⟩ (yIKy yhLy) (cuts0 (fun _=>rfl) (by kernel_rfl)) Tryz.func89 (by kernel_rfl) (by kernel_rfl)
abbrev ykwy:Type 1:=G_Deed→{R:Type}→(Bool→Option R)→Option R
def ydly (g:Nat) (a1:G_Deed) {R:Type} (k0:Bool→Option R):Option R :=
 (bif (a1.f_Kind == 3) then (bif (a1.f_Kind == 1) then (bif (a1.f_Kind == 2) then (bif (a1.f_Kind == 5) then k0 true else (bif (a1.f_Of == []) then k0 (a1.f_Other == 0) else k0 false)) else (bif (a1.f_Band == []) then (bif (a1.f_Kind == 5) then k0 true else (bif (a1.f_Of == []) then k0 (a1.f_Other == 0) else k0 false)) else k0 false)) else (bif (ycdy a1.f_Contact (⟨0,0,[],[],a1.f_Contact.f_Sent,0,[],[]⟩:G_Contact)) then (bif (a1.f_Kind == 2) then (bif (a1.f_Kind == 5) then k0 true else (bif (a1.f_Of == []) then k0 (a1.f_Other == 0) else k0 false)) else (bif (a1.f_Band == []) then (bif (a1.f_Kind == 5) then k0 true else (bif (a1.f_Of == []) then k0 (a1.f_Other == 0) else k0 false)) else k0 false)) else k0 false)) else (bif (a1.f_Kind == 4) then (bif (a1.f_Kind == 1) then (bif (a1.f_Kind == 2) then (bif (a1.f_Kind == 5) then k0 true else (bif (a1.f_Of == []) then k0 (a1.f_Other == 0) else k0 false)) else (bif (a1.f_Band == []) then (bif (a1.f_Kind == 5) then k0 true else (bif (a1.f_Of == []) then k0 (a1.f_Other == 0) else k0 false)) else k0 false)) else (bif (ycdy a1.f_Contact (⟨0,0,[],[],a1.f_Contact.f_Sent,0,[],[]⟩:G_Contact)) then (bif (a1.f_Kind == 2) then (bif (a1.f_Kind == 5) then k0 true else (bif (a1.f_Of == []) then k0 (a1.f_Other == 0) else k0 false)) else (bif (a1.f_Band == []) then (bif (a1.f_Kind == 5) then k0 true else (bif (a1.f_Of == []) then k0 (a1.f_Other == 0) else k0 false)) else k0 false)) else k0 false)) else (bif (a1.f_Kind == 1) then (bif (a1.f_Kind == 2) then (bif (a1.f_Kind == 5) then k0 true else (bif (a1.f_Of == []) then k0 (a1.f_Other == 0) else k0 false)) else (bif (a1.f_Band == []) then (bif (a1.f_Kind == 5) then k0 true else (bif (a1.f_Of == []) then k0 (a1.f_Other == 0) else k0 false)) else k0 false)) else (bif (ycdy a1.f_Contact (⟨0,0,[],[],0,0,[],[]⟩:G_Contact)) then (bif (a1.f_Kind == 2) then (bif (a1.f_Kind == 5) then k0 true else (bif (a1.f_Of == []) then k0 (a1.f_Other == 0) else k0 false)) else (bif (a1.f_Band == []) then (bif (a1.f_Kind == 5) then k0 true else (bif (a1.f_Of == []) then k0 (a1.f_Other == 0) else k0 false)) else k0 false)) else k0 false))))
noncomputable def net_idle [Fuel]:ykwy:=@ydly NN
def ygyy (g:ykwy):Spec A:=fun args=>match args with | [.agg [.d (.str a1),.d (.int .i64 a2),.d (.int .i64 a3),.d (.int .i64 a4),.d (.int .i64 a5),.d (.int .i64 a6),.d (.str a7),.d (.str a8),.d (.int .i64 a9),.d (.int .i64 a10),.d (.str a11),.d (.str a12),.d (.str a13),.d (.str a14),.d (.int .i64 a15)]]=>fun k=>g ⟨a1,a2,a3,a4,⟨a5,a6,a7,a8,a9,a10,a11,a12⟩,a13,a14,a15⟩ (fun z0=>k (.d (.bool z0)) [.undef]) | _=>fun _=>none
noncomputable def yGfy:Code:=(Tryz.f90.body).getD .skip
noncomputable def yAiy (g:Nat):Env A:=mkE [] [(1,[0]),(5,[1])] [] [] [] [] [] [] [] []
theorem yw3y (g:Nat):Same (ygyy (@ydly g)) (abody (yAiy g) Tryz.f90 yGfy 2 [] [.asis] g):=by intro args; unfold ygyy; split; exact .inr fun R k=>(by kernel_rfl); exact .inl fun R k=>rfl
theorem yxay [Fuel]:Ok 90 (ygyy (@net_idle _)):=yacy std .nil ⟨rfl,rfl,by kernel_rfl,rfl,rfl,rfl⟩ (yw3y NN) (cuts0 (fun _=>rfl) (by kernel_rfl)) Tryz.func90 (by kernel_rfl) (by kernel_rfl)
abbrev yh6y:Type 1:=G_Deed→{R:Type}→(Int→Option R)→Option R
structure C_net_formed where
 N:Nat
 z50z:yh4y
 z49z:yfny
 kit_IsKey:ybDy
 z67z:ywby
 net_idle:ykwy
def yi4y (g:C_net_formed) (a1:G_Deed) {R:Type} (k0:Int→Option R):Option R :=
 (g.kit_IsKey a1.f_Site (fun r2=>(bif (!r2) then k0 5 else (g.z49z a1.f_No 1 1000000 (fun r3=>(bif r3 then k0 1 else (g.z50z a1.f_At (fun r4=>(bif (!r4) then k0 1 else (g.z49z a1.f_Kind 1 5 (fun r5=>(bif r5 then k0 4 else (g.z67z a1 (fun r6=>(bif (r6 != 0) then k0 r6 else (g.net_idle a1 (fun r7=>(bif (!r7) then k0 3 else k0 0))))))))))))))))))
noncomputable def yhIy [Fuel]:C_net_formed:=⟨NN,@z50z _,@z49z _,@kit_IsKey _,@z67z _,@net_idle _⟩
noncomputable def net_formed [Fuel]:yh6y:=@yi4y yhIy
def yeny (g:yh6y):Spec A:=fun args=>match args with | [.agg [.d (.str a1),.d (.int .i64 a2),.d (.int .i64 a3),.d (.int .i64 a4),.d (.int .i64 a5),.d (.int .i64 a6),.d (.str a7),.d (.str a8),.d (.int .i64 a9),.d (.int .i64 a10),.d (.str a11),.d (.str a12),.d (.str a13),.d (.str a14),.d (.int .i64 a15)]]=>fun k=>g ⟨a1,a2,a3,a4,⟨a5,a6,a7,a8,a9,a10,a11,a12⟩,a13,a14,a15⟩ (fun z0=>k (.d (.int .i64 z0)) [.undef]) | _=>fun _=>none
noncomputable def yHly:Code:=(Tryz.f53.body).getD .skip
noncomputable def yvQy (g:C_net_formed):Env A:=mkE [(27,yeFy g.z50z),(60,yc8y g.z49z),(66,ybly g.kit_IsKey),(89,ym5y g.z67z),(90,ygyy g.net_idle)] [(1,[0])] [] [] [] [] [] [] [] []
theorem ytly (g:C_net_formed):Same (yeny (@yi4y g)) (abody (yvQy g) Tryz.f53 yHly 1 [] [.asis] g.N):=by intro args; unfold yeny; split; exact .inr fun R k=>(by kernel_rfl); exact .inl fun R k=>rfl
theorem ylhy [Fuel]:Ok 53 (yeny (@net_formed _)):=yacy std (.cons yhBy (.cons yeDy (.cons yaXy (.cons yIay (.cons yxay .nil))))) ⟨rfl,rfl,by kernel_rfl,rfl,rfl,rfl⟩ (ytly yhIy) (cuts0 (fun _=>rfl) (by kernel_rfl)) Tryz.func53 (by kernel_rfl) (by kernel_rfl)
abbrev yt1y:Type 1:=Int→{R:Type}→(Bool→Option R)→Option R
def z72z_ (g:Nat) (a1:Int) {R:Type} (k0:Bool→Option R):Option R :=
 k0 (a1 != a1)
noncomputable def z72z [Fuel]:yt1y:=@z72z_ NN
def yeOy (g:yt1y):Spec A:=fun args=>match args with | [.d (.int .i64 a1)]=>fun k=>g a1 (fun z0=>k (.d (.bool z0)) [.undef]) | _=>fun _=>none
noncomputable def yuty:Code:=(Tryz.f101.body).getD .skip
noncomputable def yKOy (g:Nat):Env A:=mkE [] [] [] [] [] [] [] [] [] []
theorem yIty (g:Nat):Same (yeOy (@z72z_ g)) (abody (yKOy g) Tryz.f101 yuty 0 [] [.asis] g):=by intro args; unfold yeOy; split; exact .inr fun R k=>(by kernel_rfl); exact .inl fun R k=>rfl
theorem yGgy [Fuel]:Ok 101 (yeOy (@z72z _)):=yacy std .nil ⟨rfl,rfl,by kernel_rfl,rfl,rfl,rfl⟩ (yIty NN) (cuts0 (fun _=>rfl) (by kernel_rfl)) Tryz.func101 (by kernel_rfl) (by kernel_rfl)
noncomputable def yG3y (g:Nat):Env A:=mkED [] [] [] [] [] [] [] [] [] []
theorem yFcy (g:Nat):Same (yeOy (@z72z_ g)) (abody (yG3y g) Tryz.f101 yuty 0 [] [.asis] g):=by intro args; unfold yeOy; split; exact .inr fun R k=>(by kernel_rfl); exact .inl fun R k=>rfl
theorem yEhy [Fuel]:OkD 101 (yeOy (@z72z _)):=yacy stdD .nil ⟨rfl,rfl,by kernel_rfl,rfl,rfl,rfl⟩ (yFcy NN) (cuts0 (fun _=>rfl) (by kernel_rfl)) Tryz.func101 (by kernel_rfl) (by kernel_rfl)
abbrev yjNy:Type 1:=Int→Int→{R:Type}→(Int→Option R)→Option R
structure C_z26z where
 N:Nat
 z72z:yt1y
def z26z_ (g:C_z26z) (a1 a2:Int) {R:Type} (k0:Int→Option R):Option R :=
 (g.z72z a1 (fun r3=>(g.z72z a2 (fun r4=>(bif r3 then (bif r4 then k0 0 else k0 (-1)) else (bif r4 then k0 1 else (bif (decide (a1 < a2)) then k0 (-1) else (bif (decide (a1 > a2)) then k0 1 else k0 0))))))))
noncomputable def yqiy [Fuel]:C_z26z:=⟨NN,@z72z _⟩
noncomputable def z26z [Fuel]:yjNy:=@z26z_ yqiy
def yb7y (g:yjNy):Spec A:=fun args=>match args with | [.d (.int .i64 a1),.d (.int .i64 a2)]=>fun k=>g a1 a2 (fun z0=>k (.d (.int .i64 z0)) [.undef,.undef]) | _=>fun _=>none
noncomputable def yzay:Code:=(Tryz.f58.body).getD .skip
noncomputable def yJHy (g:C_z26z):Env A:=mkE [(101,yeOy g.z72z)] [] [] [] [] [] [] [] [] []
theorem yILy (g:C_z26z):Same (yb7y (@z26z_ g)) (abody (yJHy g) Tryz.f58 yzay 0 [] [.asis] g.N):=by intro args; unfold yb7y; split; exact .inr fun R k=>(by kernel_rfl); exact .inl fun R k=>rfl
theorem ynGy [Fuel]:Ok 58 (yb7y (@z26z _)):=yacy std (.cons yGgy .nil) ⟨rfl,rfl,by kernel_rfl,rfl,rfl,rfl⟩ (yILy yqiy) (cuts0 (fun _=>rfl) (by kernel_rfl)) Tryz.func58 (by kernel_rfl) (by kernel_rfl)
noncomputable def yFHy (g:C_z26z):Env A:=mkED [(101,yeOy g.z72z)] [] [] [] [] [] [] [] [] []
theorem yEFy (g:C_z26z):Same (yb7y (@z26z_ g)) (abody (yFHy g) Tryz.f58 yzay 0 [] [.asis] g.N):=by intro args; unfold yb7y; split; exact .inr fun R k=>(by kernel_rfl); exact .inl fun R k=>rfl
theorem yoGy [Fuel]:OkD 58 (yb7y (@z26z _)):=yacy stdD (.cons yEhy .nil) ⟨rfl,rfl,by kernel_rfl,rfl,rfl,rfl⟩ (yEFy yqiy) (cuts0 (fun _=>rfl) (by kernel_rfl)) Tryz.func58 (by kernel_rfl) (by kernel_rfl)
abbrev yidy:Type 1:=List Int→{R:Type}→(Int→Option R)→Option R
def z25z_L3 (g:Nat):Nat→Int→List Int→Int→Int→{R:Type}→(Int→Int→Option R)→(Int→Option R)→Option R
 | 0,_,_,_,_,_,_,_=>none
 | n + 1,v2,v3,v4,v5,_,e0,e1=>(bif (decide (v5 < v4)) then (get_ v3 v5 fun x7=>(bif (x7 != v2) then e0 x7 v2 else z25z_L3 g n v2 v3 v4 (w64 (v5 + 1)) e0 e1)) else e1 v2)
def z25z_ (g:Nat) (a1:List Int) {R:Type} (k0:Int→Option R):Option R :=
 (z25z_L3 g g 0 a1 (a1.length:Int) 0 (fun e8 e9=>k0 e8) (fun e10=>k0 e10))
noncomputable def z25z [Fuel]:yidy:=@z25z_ NN
def ybZy (g:yidy):Spec A:=fun args=>match args with | [.d (.sl 3 a1)]=>fun k=>g a1 (fun z0=>k (.d (.int .i64 z0)) [.undef]) | _=>fun _=>none
def ydIy:SSt:=mkSh 18 0 [(3,.int .i64),(6,.sl 3),(7,.int .i64),(8,.int .i64)] []
def ybPy (g:Nat) (n:Nat):LPT A:=fun ps=>match ps with | [.d (.int .i64 p1),.d (.sl 3 p2),.d (.int .i64 p3),.d (.int .i64 p4)]=>fun K=>z25z_L3 g n p1 p2 p3 p4 (fun z0 z1=>K .ret (mkSt 18 0 [(2,.d (.int .i64 z0)),(3,.d (.int .i64 z1))] [])) (fun z0=>K (.exit 0) (mkSt 18 0 [(3,.d (.int .i64 z0))] [])) | _=>fun _=>none
noncomputable def yrjy:Code:=(Tryz.f57.body).getD .skip
noncomputable def ypOy (g:Nat):Env A:=mkE [] [] [(3,⟨[3,6,7,8],[],[],[],[],[],[]⟩)] [(3,⟨[2,3],[],[],[],[],[],[]⟩)] [(3,yaiy ydIy (ybPy g g))] [] [] [] [] []
theorem yIwy [Fuel]:yamy (ypOy NN).C:=ct_of (P:=Tryz.prog) (T:=T) .nil (by kernel_rfl)
noncomputable def yhby:Code:=sub [1,1,0,1,0,0] yrjy
theorem yDhy (g:Nat) (n:Nat):yaoy (ypOy g) g yhby ydIy (ybPy g) n:=by intro ps; unfold ybPy; split; exact .inr fun R K=>(by kernel_rfl); exact .inl fun R K=>rfl
theorem yAPy [Fuel]:yahy (ypOy NN) NN yhby:=yaky ydIy (ybPy NN) (by kernel_rfl) yIwy (cuts0 (fun _=>rfl) (by kernel_rfl)) (fun ps R K=>by unfold ybPy; split <;> (try unfold z25z_L3) <;> rfl) (yDhy NN)
theorem yGhy (g:Nat):Same (ybZy (@z25z_ g)) (abody (ypOy g) Tryz.f57 yrjy 0 [] [.asis] g):=by intro args; unfold ybZy; split; exact .inr fun R k=>(by kernel_rfl); exact .inl fun R k=>rfl
theorem yhyy [Fuel]:Ok 57 (ybZy (@z25z _)):=yacy std .nil ⟨rfl,rfl,by kernel_rfl,rfl,rfl,rfl⟩ (yGhy NN) (cutsL (fun _=>rfl) (.cons yAPy .nil) (by kernel_rfl)) Tryz.func57 (by kernel_rfl) (by kernel_rfl)
noncomputable def ynPy (g:Nat):Env A:=mkED [] [] [(3,⟨[3,6,7,8],[],[],[],[],[],[]⟩)] [(3,⟨[2,3],[],[],[],[],[],[]⟩)] [(3,yaiy ydIy (ybPy g g))] [] [] [] [] []
theorem yDRy [Fuel]:yamy (ynPy NN).C:=ct_of (P:=Tryz.prog) (T:=TD) .nil (by kernel_rfl)
theorem yAXy (g:Nat) (n:Nat):yaoy (ynPy g) g yhby ydIy (ybPy g) n:=by intro ps; unfold ybPy; split; exact .inr fun R K=>(by kernel_rfl); exact .inl fun R K=>rfl
theorem yw6y [Fuel]:yahy (ynPy NN) NN yhby:=yaky ydIy (ybPy NN) (by kernel_rfl) yDRy (cuts0 (fun _=>rfl) (by kernel_rfl)) (fun ps R K=>by unfold ybPy; split <;> (try unfold z25z_L3) <;> rfl) (yAXy NN)
theorem yDLy (g:Nat):Same (ybZy (@z25z_ g)) (abody (ynPy g) Tryz.f57 yrjy 0 [] [.asis] g):=by intro args; unfold ybZy; split; exact .inr fun R k=>(by kernel_rfl); exact .inl fun R k=>rfl
theorem yoVy [Fuel]:OkD 57 (ybZy (@z25z _)):=yacy stdD .nil ⟨rfl,rfl,by kernel_rfl,rfl,rfl,rfl⟩ (yDLy NN) (cutsL (fun _=>rfl) (.cons yw6y .nil) (by kernel_rfl)) Tryz.func57 (by kernel_rfl) (by kernel_rfl)
abbrev ytyy:Type 1:=G_Deed→G_Deed→{R:Type}→(Int→Option R)→Option R
structure C_z43z where
 N:Nat
 z25z:yidy
 z26z:yjNy
 strings_Compare:ybcy
def z43z_ (g:C_z43z) (a1 a2:G_Deed) {R:Type} (k0:Int→Option R):Option R :=
 (g.z26z a1.f_At a2.f_At (fun r3=>(g.strings_Compare a1.f_Site a2.f_Site (fun r4=>(g.z26z a1.f_No a2.f_No (fun r5=>(g.z25z [r3,r4,r5] (fun r6=>k0 r6))))))))
noncomputable def ypZy [Fuel]:C_z43z:=⟨NN,@z25z _,@z26z _,@strings_Compare _⟩
noncomputable def z43z [Fuel]:ytyy:=@z43z_ ypZy
def yeCy (g:ytyy):Spec A:=fun args=>match args with | [.agg [.d (.str a1),.d (.int .i64 a2),.d (.int .i64 a3),.d (.int .i64 a4),.d (.int .i64 a5),.d (.int .i64 a6),.d (.str a7),.d (.str a8),.d (.int .i64 a9),.d (.int .i64 a10),.d (.str a11),.d (.str a12),.d (.str a13),.d (.str a14),.d (.int .i64 a15)],.agg [.d (.str a16),.d (.int .i64 a17),.d (.int .i64 a18),.d (.int .i64 a19),.d (.int .i64 a20),.d (.int .i64 a21),.d (.str a22),.d (.str a23),.d (.int .i64 a24),.d (.int .i64 a25),.d (.str a26),.d (.str a27),.d (.str a28),.d (.str a29),.d (.int .i64 a30)]]=>fun k=>g ⟨a1,a2,a3,a4,⟨a5,a6,a7,a8,a9,a10,a11,a12⟩,a13,a14,a15⟩ ⟨a16,a17,a18,a19,⟨a20,a21,a22,a23,a24,a25,a26,a27⟩,a28,a29,a30⟩ (fun z0=>k (.d (.int .i64 z0)) [.undef,.undef]) | _=>fun _=>none
noncomputable def yzBy:Code:=(Tryz.f26.body).getD .skip
noncomputable def yJzy (g:C_z43z):Env A:=mkE [(57,ybZy g.z25z),(58,yb7y g.z26z),(59,yaFy g.strings_Compare)] [(2,[0]),(3,[1]),(20,[2])] [] [] [] [] [] [] [] []
theorem yICy (g:C_z43z):Same (yeCy (@z43z_ g)) (abody (yJzy g) Tryz.f26 yzBy 3 [] [.asis] g.N):=by intro args; unfold yeCy; split; exact .inr fun R k=>(by kernel_rfl); exact .inl fun R k=>rfl
theorem yyPy [Fuel]:Ok 26 (yeCy (@z43z _)):=yacy std (.cons yhyy (.cons ynGy (.cons ybky .nil))) ⟨rfl,rfl,by kernel_rfl,rfl,rfl,rfl⟩ (yICy ypZy) (cuts0 (fun _=>rfl) (by kernel_rfl)) Tryz.func26 (by kernel_rfl) (by kernel_rfl)
noncomputable def yIby (g:C_z43z):Env A:=mkED [(57,ybZy g.z25z),(58,yb7y g.z26z),(59,yaFy g.strings_Compare)] [(2,[0]),(3,[1]),(20,[2])] [] [] [] [] [] [] [] []
theorem yEky (g:C_z43z):Same (yeCy (@z43z_ g)) (abody (yIby g) Tryz.f26 yzBy 3 [] [.asis] g.N):=by intro args; unfold yeCy; split; exact .inr fun R k=>(by kernel_rfl); exact .inl fun R k=>rfl
theorem ywey [Fuel]:OkD 26 (yeCy (@z43z _)):=yacy stdD (.cons yoVy (.cons yoGy (.cons ydjy .nil))) ⟨rfl,rfl,by kernel_rfl,rfl,rfl,rfl⟩ (yEky ypZy) (cuts0 (fun _=>rfl) (by kernel_rfl)) Tryz.func26 (by kernel_rfl) (by kernel_rfl)
abbrev ylWy:Type 1:=List G_Deed→{R:Type}→(Int→Option R)→Option R
structure C_z13z where
 N:Nat
 z43z:ytyy
 net_formed:yh6y
def z13z_L4 (g:C_z13z):Nat→List G_Deed→List G_Deed→Int→Int→{R:Type}→(List G_Deed→Int→Option R)→(List G_Deed→Option R)→Option R
 | 0,_,_,_,_,_,_,_=>none
 | n + 1,v2,v3,v4,v5,_,e0,e1=>(bif (decide (v5 < v4)) then (get_ v3 v5 fun x10=>(g.net_formed x10 (fun r11=>(bif (r11 != 0) then e0 v2 r11 else (bif (decide (v5 > 0)) then (get_ v2 (w64 (v5 - 1)) fun x12=>(g.z43z x12 x10 (fun r13=>(bif (decide (r13 ≥ 0)) then e0 v2 7 else z13z_L4 g n v2 v3 v4 (w64 (v5 + 1)) e0 e1)))) else z13z_L4 g n v2 v3 v4 (w64 (v5 + 1)) e0 e1))))) else e1 v2)
def z13z_L14 (g:C_z13z):Nat→List G_Deed→Int→Int→List (G_net_own×Bool)→{R:Type}→(Int→Option R)→Option R→Option R
 | 0,_,_,_,_,_,_,_=>none
 | n + 1,v17,v18,v19,v20,_,e0,e1=>(bif (decide (v19 < v18)) then (get_ v17 v19 fun x22=>(bif ((ya1y (⟨x22.f_Site,x22.f_No⟩:G_net_own) v20).getD false) then e0 6 else z13z_L14 g n v17 v18 (w64 (v19 + 1)) (yaLy (⟨x22.f_Site,x22.f_No⟩:G_net_own) true v20) e0 e1)) else e1)
def z13z_ (g:C_z13z) (a1:List G_Deed) {R:Type} (k0:Int→Option R):Option R :=
 (bif (decide ((a1.length:Int) > 2000)) then k0 2 else (z13z_L4 g g.N a1 a1 (a1.length:Int) 0 (fun e14 e15=>k0 e15) (fun e16=>(z13z_L14 g g.N e16 (e16.length:Int) 0 [] (fun e23=>k0 e23) (k0 0)))))
noncomputable def ycey [Fuel]:C_z13z:=⟨NN,@z43z _,@net_formed _⟩
noncomputable def z13z [Fuel]:ylWy:=@z13z_ ycey
def yhCy (g:ylWy):Spec A:=fun args=>match args with | [.d (.sl 41 a1)]=>fun k=>g a1 (fun z0=>k (.d (.int .i64 z0)) [.undef]) | _=>fun _=>none
def ykAy:SSt:=mkSh 56 4 [(0,.sl 41),(13,.sl 41),(14,.int .i64),(15,.int .i64)] []
def yfvy (g:C_z13z) (n:Nat):LPT A:=fun ps=>match ps with | [.d (.sl 41 p1),.d (.sl 41 p2),.d (.int .i64 p3),.d (.int .i64 p4)]=>fun K=>z13z_L4 g n p1 p2 p3 p4 (fun z0 z1=>K .ret (mkSt 56 4 [(0,.d (.sl 41 z0)),(2,.d (.int .i64 z1))] [])) (fun z0=>K (.exit 0) (mkSt 56 4 [(0,.d (.sl 41 z0))] [])) | _=>fun _=>none
def yi0y:SSt:=mkSh 56 4 [(6,.mp 1),(39,.sl 41),(40,.int .i64),(41,.int .i64)] [(1,.mp 70 4)]
def yd7y (g:C_z13z) (n:Nat):LPT A:=fun ps=>match ps with | [.d (.sl 41 p1),.d (.int .i64 p2),.d (.int .i64 p3),.mp 70 4 p4]=>fun K=>z13z_L14 g n p1 p2 p3 p4 (fun z0=>K .ret (mkSt 56 4 [(2,.d (.int .i64 z0))] [])) (K (.exit 2) (mkSt 56 4 [] [])) | _=>fun _=>none
noncomputable def yr1y:Code:=(Tryz.f23.body).getD .skip
noncomputable def yjKy (g:C_z13z):Env A:=mkE [(26,yeCy g.z43z),(53,yeny g.net_formed)] [(4,[0]),(8,[2]),(9,[3]),(38,[1])] [(4,⟨[0,13,14,15],[],[],[],[],[],[]⟩),(14,⟨[6,39,40,41],[],[1],[],[],[],[]⟩)] [(4,⟨[0,2],[],[],[],[],[],[]⟩),(14,⟨[2],[],[],[],[],[],[]⟩)] [(4,yaiy ykAy (yfvy g g.N)),(14,yaiy yi0y (yd7y g g.N))] [] [] [] [] []
theorem yzIy [Fuel]:yamy (yjKy ycey).C:=ct_of (P:=Tryz.prog) (T:=T) (.cons yyPy (.cons ylhy .nil)) (by kernel_rfl)
noncomputable def ypry:Code:=sub [1,1,0,1,0,0] yr1y
theorem yBZy (g:C_z13z) (n:Nat):yaoy (yjKy g) g.N ypry ykAy (yfvy g) n:=by intro ps; unfold yfvy; split; exact .inr fun R K=>(by kernel_rfl); exact .inl fun R K=>rfl
theorem yAEy [Fuel]:yahy (yjKy ycey) NN ypry:=yaky ykAy (yfvy ycey) (by kernel_rfl) yzIy (cuts0 (fun _=>rfl) (by kernel_rfl)) (fun ps R K=>by unfold yfvy; split <;> (try unfold z13z_L4) <;> rfl) (yBZy ycey)
noncomputable def yoiy:Code:=sub [1,1,1,1,0,1,0,0] yr1y
theorem yAzy (g:C_z13z) (n:Nat):yaoy (yjKy g) g.N yoiy yi0y (yd7y g) n:=by intro ps; unfold yd7y; split; exact .inr fun R K=>(by kernel_rfl); exact .inl fun R K=>rfl
theorem ywVy [Fuel]:yahy (yjKy ycey) NN yoiy:=yaky yi0y (yd7y ycey) (by kernel_rfl) yzIy (cuts0 (fun _=>rfl) (by kernel_rfl)) (fun ps R K=>by unfold yd7y; split <;> (try unfold z13z_L14) <;> rfl) (yAzy ycey)
theorem yH9y (g:C_z13z):Same (yhCy (@z13z_ g)) (abody (yjKy g) Tryz.f23 yr1y 4 [] [.asis] g.N):=by intro args; unfold yhCy; split; exact .inr fun R k=>(by kernel_rfl); exact .inl fun R k=>rfl
theorem yjEy [Fuel]:Ok 23 (yhCy (@z13z _)):=yacy std (.cons yyPy (.cons ylhy .nil)) ⟨rfl,rfl,by kernel_rfl,rfl,rfl,rfl⟩ (yH9y ycey) (cutsL (fun _=>rfl) (.cons yAEy (.cons ywVy .nil)) (by kernel_rfl)) Tryz.func23 (by kernel_rfl) (by kernel_rfl)
abbrev yqLy:Type 1:=List G_Deed→Int→{R:Type}→(Int→Option R)→Option R
structure C_z62z where
 N:Nat
 z13z:ylWy
 z50z:yh4y
def z62z_ (g:C_z62z) (a1:List G_Deed) (a2:Int) {R:Type} (k0:Int→Option R):Option R :=
 (g.z13z a1 (fun r3=>(bif (r3 != 0) then k0 r3 else (g.z50z a2 (fun r4=>(bif (!r4) then k0 1 else k0 0))))))
noncomputable def ymQy [Fuel]:C_z62z:=⟨NN,@z13z _,@z50z _⟩
noncomputable def z62z [Fuel]:yqLy:=@z62z_ ymQy
def yj7y (g:yqLy):Spec A:=fun args=>match args with | [.d (.sl 41 a1),.d (.int .i64 a2)]=>fun k=>g a1 a2 (fun z0=>k (.d (.int .i64 z0)) [.undef,.undef]) | _=>fun _=>none
noncomputable def yI6y:Code:=(Tryz.f35.body).getD .skip
noncomputable def yKJy (g:C_z62z):Env A:=mkE [(23,yhCy g.z13z),(27,yeFy g.z50z)] [] [] [] [] [] [] [] [] []
theorem yFRy (g:C_z62z):Same (yj7y (@z62z_ g)) (abody (yKJy g) Tryz.f35 yI6y 0 [] [.asis] g.N):=by intro args; unfold yj7y; split; exact .inr fun R k=>(by kernel_rfl); exact .inl fun R k=>rfl
theorem yycy [Fuel]:Ok 35 (yj7y (@z62z _)):=yacy std (.cons yjEy (.cons yhBy .nil)) ⟨rfl,rfl,by kernel_rfl,rfl,rfl,rfl⟩ (yFRy ymQy) (cuts0 (fun _=>rfl) (by kernel_rfl)) Tryz.func35 (by kernel_rfl) (by kernel_rfl)
abbrev yvLy:Type 1:=List G_Deed→{R:Type}→(List G_Deed→Option R)→Option R
def z75z_ (g:Nat) (a1:List G_Deed) {R:Type} (k0:List G_Deed→Option R):Option R :=
 k0 a1
noncomputable def z75z [Fuel]:yvLy:=@z75z_ NN
def ynay (g:yvLy):Spec A:=fun args=>match args with | [.d (.sl 41 a1)]=>fun k=>g a1 (fun z0=>k (.fn 107 [.box [.d (.sl 41 z0)]]) [.undef]) | _=>fun _=>none
noncomputable def yHGy:Code:=(Tryz.f69.body).getD .skip
noncomputable def yKwy (g:Nat):Env A:=mkE [] [(1,[0])] [] [] [] [] [] [] [] []
theorem yGPy (g:Nat):Same (ynay (@z75z_ g)) (abody (yKwy g) Tryz.f69 yHGy 1 [] [.asis] g):=by intro args; unfold ynay; split; exact .inr fun R k=>(by kernel_rfl); exact .inl fun R k=>rfl
theorem yzHy [Fuel]:Ok 69 (ynay (@z75z _)):=yacy std .nil ⟨rfl,rfl,by kernel_rfl,rfl,rfl,rfl⟩ (yGPy NN) (cuts0 (fun _=>rfl) (by kernel_rfl)) Tryz.func69 (by kernel_rfl) (by kernel_rfl)
abbrev yuby:Type 1:=List Int→{R:Type}→(List Int→Option R)→Option R
def z39z_L1 (g:Nat):Nat→Int→Int→List Int→{R:Type}→(List Int→Option R)→Option R
 | 0,_,_,_,_,_=>none
 | n + 1,v2,v3,v4,_,e0=>(bif (decide (v2 < v3)) then (inr v4 v3 (at_ v4 v3 fun x9=>(inr v4 v2 (at_ v4 v2 fun x10=>(inr v4 v2 (at_ v4 v2 fun x11=>(inr (set_ v4 v2 x9) v3 (at_ (set_ v4 v2 x9) v3 fun x12=>z39z_L1 g n (w64 (v2 + 1)) (w64 (v3 - 1)) (set_ (set_ v4 v2 x9) v3 x10) e0)))))))) else e0 v4)
def z39z_ (g:Nat) (a1:List Int) {R:Type} (k0:List Int→Option R):Option R :=
 (z39z_L1 g g 0 (w64 ((a1.length:Int) - 1)) a1 (fun e13=>k0 e13))
noncomputable def z39z [Fuel]:yuby:=@z39z_ NN
def ynHy (g:yuby):Spec A:=fun args=>match args with | [.arr 3 a1]=>fun k=>g a1 (fun z0=>k (.tup []) [.arr 3 z0]) | _=>fun _=>none
def ykby:SSt:=mkSh 28 1 [(0,.own 3 0),(2,.int .i64),(3,.int .i64)] [(0,.row 3)]
def ye3y (g:Nat) (n:Nat):LPT A:=fun ps=>match ps with | [.d (.int .i64 p1),.d (.int .i64 p2),.d (.sl 3 p3)]=>fun K=>z39z_L1 g n p1 p2 p3 (fun z0=>K (.exit 0) (mkSt 28 1 [(0,.own 3 0)] [(0,some (.row 3 z0))])) | _=>fun _=>none
noncomputable def yxXy:Code:=(Tryz.f70.body).getD .skip
noncomputable def yqey (g:Nat):Env A:=mkE [] [] [(1,⟨[0,2,3],[],[0],[],[],[],[]⟩)] [(1,⟨[0],[],[0],[],[],[],[]⟩)] [(1,yaiy ykby (ye3y g g))] [] [] [] [] [0]
theorem yFQy [Fuel]:yamy (yqey NN).C:=ct_of (P:=Tryz.prog) (T:=T) .nil (by kernel_rfl)
noncomputable def yqGy:Code:=sub [1,0,0] yxXy
theorem yCvy (g:Nat) (n:Nat):yaoy (yqey g) g yqGy ykby (ye3y g) n:=by intro ps; unfold ye3y; split; exact .inr fun R K=>(by kernel_rfl); exact .inl fun R K=>rfl
theorem yAYy [Fuel]:yahy (yqey NN) NN yqGy:=yaky ykby (ye3y NN) (by kernel_rfl) yFQy (cuts0 (fun _=>rfl) (by kernel_rfl)) (fun ps R K=>by unfold ye3y; split <;> (try unfold z39z_L1) <;> rfl) (yCvy NN)
theorem yIky (g:Nat):Same (ynHy (@z39z_ g)) (abody (yqey g) Tryz.f70 yxXy 1 [0] [] g):=by intro args; unfold ynHy; split; exact .inr fun R k=>(by kernel_rfl); exact .inl fun R k=>rfl
theorem yzvy [Fuel]:Ok 70 (ynHy (@z39z _)):=yacy std .nil ⟨rfl,rfl,by kernel_rfl,rfl,rfl,rfl⟩ (yIky NN) (cutsL (fun _=>rfl) (.cons yAYy .nil) (by kernel_rfl)) Tryz.func70 (by kernel_rfl) (by kernel_rfl)
end Go.Am
