/- The functions of the program as Lean functions, each shown to be what the code computes, part 5. No condition: lemmas for the claim. -/
import Derived.Test.YtphcgliehecbkaaGreatDoorF0
import Derived.Test.YtphcgliehecbkaaGreatDoorFSh
import Derived.Test.YtphcgliehecbkaaGreatDoorF1
import Derived.Test.YtphcgliehecbkaaGreatDoorF2
import Derived.Test.YtphcgliehecbkaaGreatDoorF4
set_option linter.unusedVariables false
set_option maxRecDepth 100000
namespace Go.Am
open Go Go.Proofs
abbrev yeny:Type 1:=List UInt8→{R:Type}→(G_Parts→Bool→Option R)→Option R
structure C_call_Parts where
 N:Nat
 call_based:yhky
 z82z:yoKy
 z79z:ypDy
 call_tail:yhOy
def ynvy (g:C_call_Parts) (a1:List UInt8) {R:Type} (k0:G_Parts→Bool→Option R):Option R :=
 (bif (decide ((a1.length:Int) > 14)) then k0 (⟨[],[],[],0,[]⟩:G_Parts) false else (g.call_based a1 (fun r2 r3=>(bif r3 then k0 r2 true else (g.z82z a1 [47] (fun r4 r5 r6=>(bif (!r6) then k0 (⟨[],[],[],0,[]⟩:G_Parts) false else (g.call_based r5 (fun r7 r8=>(bif r8 then (g.z79z r4 (fun r9=>(bif r9 then k0 (⟨r7.f_Base,r7.f_Prefix,r7.f_Suffix,1,r4⟩:G_Parts) true else (g.call_based r4 (fun r10 r11=>(g.call_tail r5 (fun r12 r13 r14=>(bif (!r11) then k0 (⟨[],[],[],0,[]⟩:G_Parts) false else (bif (!r14) then k0 (⟨[],[],[],0,[]⟩:G_Parts) false else k0 (⟨r10.f_Base,r10.f_Prefix,r10.f_Suffix,r12,r13⟩:G_Parts) true))))))))) else (g.call_based r4 (fun r15 r16=>(g.call_tail r5 (fun r17 r18 r19=>(bif (!r16) then k0 (⟨[],[],[],0,[]⟩:G_Parts) false else (bif (!r19) then k0 (⟨[],[],[],0,[]⟩:G_Parts) false else k0 (⟨r15.f_Base,r15.f_Prefix,r15.f_Suffix,r17,r18⟩:G_Parts) true))))))))))))))))
noncomputable def ylCy [Fuel]:C_call_Parts:=⟨NN,@call_based _,@z82z _,@z79z _,@call_tail _⟩
noncomputable def call_Parts [Fuel]:yeny:=@ynvy ylCy
def ycwy (g:yeny):Spec A:=fun args=>match args with | [.d (.str a1)]=>fun k=>g a1 (fun z0 z1=>k (.tup [.agg [.d (.str z0.f_Base),.d (.str z0.f_Prefix),.d (.str z0.f_Suffix),.d (.int .i64 z0.f_Kind),.d (.str z0.f_Added)],.d (.bool z1)]) [.undef]) | _=>fun _=>none
noncomputable def yDPy:Code:=(Tryz.f150.body).getD .skip
noncomputable def ytny (g:C_call_Parts):Env A:=mkE [(174,ydOy g.call_based),(175,yify g.z82z),(176,yijy g.z79z),(177,yery g.call_tail)] [(2,[0]),(4,[1]),(9,[2]),(11,[3])] [] [] [] [] [] [] [] []
theorem yrQy (g:C_call_Parts):Same (ycwy (@ynvy g)) (abody (ytny g) Tryz.f150 yDPy 4 [] [.asis,.asis] g.N):=by intro args; unfold ycwy; split; exact .inr fun R k=>(by kernel_rfl); exact .inl fun R k=>rfl
theorem ykly [Fuel]:Ok 150 (ycwy (@call_Parts _)):=yacy std (.cons yrHy (.cons ywDy (.cons ywXy (.cons yvvy .nil)))) ⟨rfl,rfl,by kernel_rfl,rfl,rfl,rfl⟩ (yrQy ylCy) (cuts0 (fun _=>rfl) (by kernel_rfl)) Tryz.func150 (by kernel_rfl) (by kernel_rfl)
abbrev yhKy:Type 1:=List UInt8→{R:Type}→(Bool→Option R)→Option R
structure C_call_Is where
 N:Nat
 call_Parts:yeny
def yu9y (g:C_call_Is) (a1:List UInt8) {R:Type} (k0:Bool→Option R):Option R :=
 (g.call_Parts a1 (fun r2 r3=>k0 r3))
noncomputable def yrgy [Fuel]:C_call_Is:=⟨NN,@call_Parts _⟩
noncomputable def call_Is [Fuel]:yhKy:=@yu9y yrgy
def yeMy (g:yhKy):Spec A:=fun args=>match args with | [.d (.str a1)]=>fun k=>g a1 (fun z0=>k (.d (.bool z0)) [.undef]) | _=>fun _=>none
noncomputable def yDpy:Code:=(Tryz.f121.body).getD .skip
noncomputable def yBsy (g:C_call_Is):Env A:=mkE [(150,ycwy g.call_Parts)] [(3,[0])] [] [] [] [] [] [] [] []
theorem yzFy (g:C_call_Is):Same (yeMy (@yu9y g)) (abody (yBsy g) Tryz.f121 yDpy 1 [] [.asis] g.N):=by intro args; unfold yeMy; split; exact .inr fun R k=>(by kernel_rfl); exact .inl fun R k=>rfl
theorem ygEy [Fuel]:Ok 121 (yeMy (@call_Is _)):=yacy std (.cons ykly .nil) ⟨rfl,rfl,by kernel_rfl,rfl,rfl,rfl⟩ (yzFy yrgy) (cuts0 (fun _=>rfl) (by kernel_rfl)) Tryz.func121 (by kernel_rfl) (by kernel_rfl)
abbrev yg8y:Type 1:=List UInt8→{R:Type}→(Bool→Option R)→Option R
structure C_kit_IsName where
 N:Nat
 kit_IsKey:ybpy
def yhRy (g:C_kit_IsName) (a1:List UInt8) {R:Type} (k0:Bool→Option R):Option R :=
 (bif (a1 == []) then k0 true else (g.kit_IsKey a1 (fun r2=>k0 r2)))
noncomputable def ygVy [Fuel]:C_kit_IsName:=⟨NN,@kit_IsKey _⟩
noncomputable def kit_IsName [Fuel]:yg8y:=@yhRy ygVy
def ydNy (g:yg8y):Spec A:=fun args=>match args with | [.d (.str a1)]=>fun k=>g a1 (fun z0=>k (.d (.bool z0)) [.undef]) | _=>fun _=>none
noncomputable def yCXy:Code:=(Tryz.f149.body).getD .skip
noncomputable def yuMy (g:C_kit_IsName):Env A:=mkE [(68,ybay g.kit_IsKey)] [] [] [] [] [] [] [] [] []
theorem yr3y (g:C_kit_IsName):Same (ydNy (@yhRy g)) (abody (yuMy g) Tryz.f149 yCXy 0 [] [.asis] g.N):=by intro args; unfold ydNy; split; exact .inr fun R k=>(by kernel_rfl); exact .inl fun R k=>rfl
theorem yr0y [Fuel]:Ok 149 (ydNy (@kit_IsName _)):=yacy std (.cons yaOy .nil) ⟨rfl,rfl,by kernel_rfl,rfl,rfl,rfl⟩ (yr3y ygVy) (cuts0 (fun _=>rfl) (by kernel_rfl)) Tryz.func149 (by kernel_rfl) (by kernel_rfl)
abbrev yoly:Type 1:=G_Contact→{R:Type}→(Int→Option R)→Option R
structure C_z59z where
 N:Nat
 kit_IsKey:ybpy
 z50z:yeWy
 z58z:yioy
 kit_IsMode:ycZy
 call_Is:yhKy
 kit_IsName:yg8y
def z59z_ (g:C_z59z) (a1:G_Contact) {R:Type} (k0:Int→Option R):Option R :=
 (g.z58z a1.f_At (fun r2=>(bif (!r2) then k0 1 else (g.kit_IsMode a1.f_Mode (fun r3=>(bif (!r3) then k0 4 else (g.kit_IsKey a1.f_Band (fun r4=>(bif (!r4) then k0 5 else (g.call_Is a1.f_Call (fun r5=>(bif (!r5) then k0 3 else (g.z50z a1.f_Sent 0 99999 (fun r6=>(bif r6 then k0 1 else (g.z50z a1.f_Heard 0 99999 (fun r7=>(bif r7 then k0 1 else (g.kit_IsName a1.f_Gave (fun r8=>(bif (!r8) then k0 5 else (g.kit_IsName a1.f_Got (fun r9=>(bif (!r9) then k0 5 else k0 0))))))))))))))))))))))))
noncomputable def ytky [Fuel]:C_z59z:=⟨NN,@kit_IsKey _,@z50z _,@z58z _,@kit_IsMode _,@call_Is _,@kit_IsName _⟩
noncomputable def z59z [Fuel]:yoly:=@z59z_ ytky
def yiLy (g:yoly):Spec A:=fun args=>match args with | [.agg [.d (.int .i64 a1),.d (.int .i64 a2),.d (.str a3),.d (.str a4),.d (.int .i64 a5),.d (.int .i64 a6),.d (.str a7),.d (.str a8)]]=>fun k=>g ⟨a1,a2,a3,a4,a5,a6,a7,a8⟩ (fun z0=>k (.d (.int .i64 z0)) [.undef]) | _=>fun _=>none
noncomputable def yCwy:Code:=(Tryz.f112.body).getD .skip
noncomputable def yHVy (g:C_z59z):Env A:=mkE [(68,ybay g.kit_IsKey),(69,ycIy g.z50z),(70,yfvy g.z58z),(76,ybXy g.kit_IsMode),(121,yeMy g.call_Is),(149,ydNy g.kit_IsName)] [(1,[0])] [] [] [] [] [] [] [] []
theorem yGry (g:C_z59z):Same (yiLy (@z59z_ g)) (abody (yHVy g) Tryz.f112 yCwy 1 [] [.asis] g.N):=by intro args; unfold yiLy; split; exact .inr fun R k=>(by kernel_rfl); exact .inl fun R k=>rfl
theorem yqNy [Fuel]:Ok 112 (yiLy (@z59z _)):=yacy std (.cons yaOy (.cons yd1y (.cons ymey (.cons ydJy (.cons ygEy (.cons yr0y .nil)))))) ⟨rfl,rfl,by kernel_rfl,rfl,rfl,rfl⟩ (yGry ytky) (cuts0 (fun _=>rfl) (by kernel_rfl)) Tryz.func112 (by kernel_rfl) (by kernel_rfl)
abbrev yvpy:Type 1:=G_Deed→{R:Type}→(Int→Option R)→Option R
structure C_z83z where
 N:Nat
 z59z:yoly
def z83z_ (g:C_z83z) (a1:G_Deed) {R:Type} (k0:Int→Option R):Option R :=
 (g.z59z a1.f_Contact (fun r2=>(bif (r2 != 0) then k0 r2 else (bif (decide (a1.f_Contact.f_At > a1.f_At)) then k0 1 else k0 0))))
noncomputable def ysOy [Fuel]:C_z83z:=⟨NN,@z59z _⟩
noncomputable def z83z [Fuel]:yvpy:=@z83z_ ysOy
def ymay (g:yvpy):Spec A:=fun args=>match args with | [.agg [.d (.str a1),.d (.int .i64 a2),.d (.int .i64 a3),.d (.int .i64 a4),.d (.int .i64 a5),.d (.int .i64 a6),.d (.str a7),.d (.str a8),.d (.int .i64 a9),.d (.int .i64 a10),.d (.str a11),.d (.str a12),.d (.str a13),.d (.str a14),.d (.int .i64 a15)]]=>fun k=>g ⟨a1,a2,a3,a4,⟨a5,a6,a7,a8,a9,a10,a11,a12⟩,a13,a14,a15⟩ (fun z0=>k (.d (.int .i64 z0)) [.undef]) | _=>fun _=>none
noncomputable def yDqy:Code:=(Tryz.f111.body).getD .skip
noncomputable def yJpy (g:C_z83z):Env A:=mkE [(112,yiLy g.z59z)] [(1,[0])] [] [] [] [] [] [] [] []
theorem yFzy (g:C_z83z):Same (ymay (@z83z_ g)) (abody (yJpy g) Tryz.f111 yDqy 1 [] [.asis] g.N):=by intro args; unfold ymay; split; exact .inr fun R k=>(by kernel_rfl); exact .inl fun R k=>rfl
theorem yF9y [Fuel]:Ok 111 (ymay (@z83z _)):=yacy std (.cons yqNy .nil) ⟨rfl,rfl,by kernel_rfl,rfl,rfl,rfl⟩ (yFzy ysOy) (cuts0 (fun _=>rfl) (by kernel_rfl)) Tryz.func111 (by kernel_rfl) (by kernel_rfl)
abbrev yuLy:Type 1:=G_Deed→{R:Type}→(Int→Option R)→Option R
structure C_z77z where
 N:Nat
 kit_IsKey:ybpy
 z50z:yeWy
 z83z:yvpy
def z77z_ (g:C_z77z) (a1:G_Deed) {R:Type} (k0:Int→Option R):Option R :=
 (bif (a1.f_Kind == 1) then (g.z83z a1 (fun r2=>k0 r2)) else (bif (a1.f_Kind == 2) then (g.kit_IsKey a1.f_Band (fun r3=>(bif (!r3) then k0 5 else k0 0))) else (bif (a1.f_Kind == 5) then (g.kit_IsKey a1.f_Of (fun r4=>(bif (!r4) then k0 5 else (g.z50z a1.f_Other 1 1000000 (fun r5=>(bif r5 then k0 1 else k0 0)))))) else (g.z50z a1.f_Contact.f_Sent 1 99999 (fun r6=>(bif r6 then k0 1 else k0 0))))))
noncomputable def yuHy [Fuel]:C_z77z:=⟨NN,@kit_IsKey _,@z50z _,@z83z _⟩
noncomputable def z77z [Fuel]:yuLy:=@z77z_ yuHy
def ymNy (g:yuLy):Spec A:=fun args=>match args with | [.agg [.d (.str a1),.d (.int .i64 a2),.d (.int .i64 a3),.d (.int .i64 a4),.d (.int .i64 a5),.d (.int .i64 a6),.d (.str a7),.d (.str a8),.d (.int .i64 a9),.d (.int .i64 a10),.d (.str a11),.d (.str a12),.d (.str a13),.d (.str a14),.d (.int .i64 a15)]]=>fun k=>g ⟨a1,a2,a3,a4,⟨a5,a6,a7,a8,a9,a10,a11,a12⟩,a13,a14,a15⟩ (fun z0=>k (.d (.int .i64 z0)) [.undef]) | _=>fun _=>none
noncomputable def yHoy:Code:=(Tryz.f71.body).getD .skip
noncomputable def yJny (g:C_z77z):Env A:=mkE [(68,ybay g.kit_IsKey),(69,ycIy g.z50z),(111,ymay g.z83z)] [(1,[0])] [] [] [] [] [] [] [] []
theorem yGAy (g:C_z77z):Same (ymNy (@z77z_ g)) (abody (yJny g) Tryz.f71 yHoy 1 [] [.asis] g.N):=by intro args; unfold ymNy; split; exact .inr fun R k=>(by kernel_rfl); exact .inl fun R k=>rfl
theorem yF5y [Fuel]:Ok 71 (ymNy (@z77z _)):=yacy std (.cons yaOy (.cons yd1y (.cons yF9y .nil))) ⟨rfl,rfl,by kernel_rfl,rfl,rfl,rfl⟩ (yGAy yuHy) (cuts0 (fun _=>rfl) (by kernel_rfl)) Tryz.func71 (by kernel_rfl) (by kernel_rfl)
abbrev yjGy:Type 1:=G_Deed→{R:Type}→(Bool→Option R)→Option R
def ylsy (g:Nat) (a1:G_Deed) {R:Type} (k0:Bool→Option R):Option R :=
 (bif (a1.f_Kind == 3) then (bif (a1.f_Kind == 1) then (bif (a1.f_Kind == 2) then (bif (a1.f_Kind == 5) then k0 true else (bif (a1.f_Of == []) then k0 (a1.f_Other == 0) else k0 false)) else (bif (a1.f_Band == []) then (bif (a1.f_Kind == 5) then k0 true else (bif (a1.f_Of == []) then k0 (a1.f_Other == 0) else k0 false)) else k0 false)) else (bif (ycWy a1.f_Contact (⟨0,0,[],[],a1.f_Contact.f_Sent,0,[],[]⟩:G_Contact)) then (bif (a1.f_Kind == 2) then (bif (a1.f_Kind == 5) then k0 true else (bif (a1.f_Of == []) then k0 (a1.f_Other == 0) else k0 false)) else (bif (a1.f_Band == []) then (bif (a1.f_Kind == 5) then k0 true else (bif (a1.f_Of == []) then k0 (a1.f_Other == 0) else k0 false)) else k0 false)) else k0 false)) else (bif (a1.f_Kind == 4) then (bif (a1.f_Kind == 1) then (bif (a1.f_Kind == 2) then (bif (a1.f_Kind == 5) then k0 true else (bif (a1.f_Of == []) then k0 (a1.f_Other == 0) else k0 false)) else (bif (a1.f_Band == []) then (bif (a1.f_Kind == 5) then k0 true else (bif (a1.f_Of == []) then k0 (a1.f_Other == 0) else k0 false)) else k0 false)) else (bif (ycWy a1.f_Contact (⟨0,0,[],[],a1.f_Contact.f_Sent,0,[],[]⟩:G_Contact)) then (bif (a1.f_Kind == 2) then (bif (a1.f_Kind == 5) then k0 true else (bif (a1.f_Of == []) then k0 (a1.f_Other == 0) else k0 false)) else (bif (a1.f_Band == []) then (bif (a1.f_Kind == 5) then k0 true else (bif (a1.f_Of == []) then k0 (a1.f_Other == 0) else k0 false)) else k0 false)) else k0 false)) else (bif (a1.f_Kind == 1) then (bif (a1.f_Kind == 2) then (bif (a1.f_Kind == 5) then k0 true else (bif (a1.f_Of == []) then k0 (a1.f_Other == 0) else k0 false)) else (bif (a1.f_Band == []) then (bif (a1.f_Kind == 5) then k0 true else (bif (a1.f_Of == []) then k0 (a1.f_Other == 0) else k0 false)) else k0 false)) else (bif (ycWy a1.f_Contact (⟨0,0,[],[],0,0,[],[]⟩:G_Contact)) then (bif (a1.f_Kind == 2) then (bif (a1.f_Kind == 5) then k0 true else (bif (a1.f_Of == []) then k0 (a1.f_Other == 0) else k0 false)) else (bif (a1.f_Band == []) then (bif (a1.f_Kind == 5) then k0 true else (bif (a1.f_Of == []) then k0 (a1.f_Other == 0) else k0 false)) else k0 false)) else k0 false))))
noncomputable def net_idle [Fuel]:yjGy:=@ylsy NN
def yfVy (g:yjGy):Spec A:=fun args=>match args with | [.agg [.d (.str a1),.d (.int .i64 a2),.d (.int .i64 a3),.d (.int .i64 a4),.d (.int .i64 a5),.d (.int .i64 a6),.d (.str a7),.d (.str a8),.d (.int .i64 a9),.d (.int .i64 a10),.d (.str a11),.d (.str a12),.d (.str a13),.d (.str a14),.d (.int .i64 a15)]]=>fun k=>g ⟨a1,a2,a3,a4,⟨a5,a6,a7,a8,a9,a10,a11,a12⟩,a13,a14,a15⟩ (fun z0=>k (.d (.bool z0)) [.undef]) | _=>fun _=>none
noncomputable def yHBy:Code:=(Tryz.f72.body).getD .skip
noncomputable def yzOy (g:Nat):Env A:=mkE [] [(1,[0]),(5,[1])] [] [] [] [] [] [] [] []
theorem yvGy (g:Nat):Same (yfVy (@ylsy g)) (abody (yzOy g) Tryz.f72 yHBy 2 [] [.asis] g):=by intro args; unfold yfVy; split; exact .inr fun R k=>(by kernel_rfl); exact .inl fun R k=>rfl
theorem ywqy [Fuel]:Ok 72 (yfVy (@net_idle _)):=yacy std .nil ⟨rfl,rfl,by kernel_rfl,rfl,rfl,rfl⟩ (yvGy NN) (cuts0 (fun _=>rfl) (by kernel_rfl)) Tryz.func72 (by kernel_rfl) (by kernel_rfl)
abbrev yepy:Type 1:=G_Deed→{R:Type}→(Int→Option R)→Option R
structure C_net_formed where
 N:Nat
 kit_IsKey:ybpy
 z50z:yeWy
 z58z:yioy
 z77z:yuLy
 net_idle:yjGy
def yhPy (g:C_net_formed) (a1:G_Deed) {R:Type} (k0:Int→Option R):Option R :=
 (g.kit_IsKey a1.f_Site (fun r2=>(bif (!r2) then k0 5 else (g.z50z a1.f_No 1 1000000 (fun r3=>(bif r3 then k0 1 else (g.z58z a1.f_At (fun r4=>(bif (!r4) then k0 1 else (g.z50z a1.f_Kind 1 5 (fun r5=>(bif r5 then k0 4 else (g.z77z a1 (fun r6=>(bif (r6 != 0) then k0 r6 else (g.net_idle a1 (fun r7=>(bif (!r7) then k0 3 else k0 0))))))))))))))))))
noncomputable def ygZy [Fuel]:C_net_formed:=⟨NN,@kit_IsKey _,@z50z _,@z58z _,@z77z _,@net_idle _⟩
noncomputable def net_formed [Fuel]:yepy:=@yhPy ygZy
def ycxy (g:yepy):Spec A:=fun args=>match args with | [.agg [.d (.str a1),.d (.int .i64 a2),.d (.int .i64 a3),.d (.int .i64 a4),.d (.int .i64 a5),.d (.int .i64 a6),.d (.str a7),.d (.str a8),.d (.int .i64 a9),.d (.int .i64 a10),.d (.str a11),.d (.str a12),.d (.str a13),.d (.str a14),.d (.int .i64 a15)]]=>fun k=>g ⟨a1,a2,a3,a4,⟨a5,a6,a7,a8,a9,a10,a11,a12⟩,a13,a14,a15⟩ (fun z0=>k (.d (.int .i64 z0)) [.undef]) | _=>fun _=>none
noncomputable def yHHy:Code:=(Tryz.f37.body).getD .skip
noncomputable def yt7y (g:C_net_formed):Env A:=mkE [(68,ybay g.kit_IsKey),(69,ycIy g.z50z),(70,yfvy g.z58z),(71,ymNy g.z77z),(72,yfVy g.net_idle)] [(1,[0])] [] [] [] [] [] [] [] []
theorem yrTy (g:C_net_formed):Same (ycxy (@yhPy g)) (abody (yt7y g) Tryz.f37 yHHy 1 [] [.asis] g.N):=by intro args; unfold ycxy; split; exact .inr fun R k=>(by kernel_rfl); exact .inl fun R k=>rfl
theorem ydQy [Fuel]:Ok 37 (ycxy (@net_formed _)):=yacy std (.cons yaOy (.cons yd1y (.cons ymey (.cons yF5y (.cons ywqy .nil))))) ⟨rfl,rfl,by kernel_rfl,rfl,rfl,rfl⟩ (yrTy ygZy) (cuts0 (fun _=>rfl) (by kernel_rfl)) Tryz.func37 (by kernel_rfl) (by kernel_rfl)
abbrev ytQy:Type 1:=Int→{R:Type}→(Bool→Option R)→Option R
def z71z_ (g:Nat) (a1:Int) {R:Type} (k0:Bool→Option R):Option R :=
 k0 (a1 != a1)
noncomputable def z71z [Fuel]:ytQy:=@z71z_ NN
def yd2y (g:ytQy):Spec A:=fun args=>match args with | [.d (.int .i64 a1)]=>fun k=>g a1 (fun z0=>k (.d (.bool z0)) [.undef]) | _=>fun _=>none
noncomputable def ytDy:Code:=(Tryz.f102.body).getD .skip
noncomputable def yJhy (g:Nat):Env A:=mkE [] [] [] [] [] [] [] [] [] []
theorem yGPy (g:Nat):Same (yd2y (@z71z_ g)) (abody (yJhy g) Tryz.f102 ytDy 0 [] [.asis] g):=by intro args; unfold yd2y; split; exact .inr fun R k=>(by kernel_rfl); exact .inl fun R k=>rfl
theorem yFWy [Fuel]:Ok 102 (yd2y (@z71z _)):=yacy std .nil ⟨rfl,rfl,by kernel_rfl,rfl,rfl,rfl⟩ (yGPy NN) (cuts0 (fun _=>rfl) (by kernel_rfl)) Tryz.func102 (by kernel_rfl) (by kernel_rfl)
noncomputable def yFjy (g:Nat):Env A:=mkED [] [] [] [] [] [] [] [] [] []
theorem yDcy (g:Nat):Same (yd2y (@z71z_ g)) (abody (yFjy g) Tryz.f102 ytDy 0 [] [.asis] g):=by intro args; unfold yd2y; split; exact .inr fun R k=>(by kernel_rfl); exact .inl fun R k=>rfl
theorem yCoy [Fuel]:OkD 102 (yd2y (@z71z _)):=yacy stdD .nil ⟨rfl,rfl,by kernel_rfl,rfl,rfl,rfl⟩ (yDcy NN) (cuts0 (fun _=>rfl) (by kernel_rfl)) Tryz.func102 (by kernel_rfl) (by kernel_rfl)
abbrev yiBy:Type 1:=Int→Int→{R:Type}→(Int→Option R)→Option R
structure C_z25z where
 N:Nat
 z71z:ytQy
def z25z_ (g:C_z25z) (a1 a2:Int) {R:Type} (k0:Int→Option R):Option R :=
 (g.z71z a1 (fun r3=>(g.z71z a2 (fun r4=>(bif r3 then (bif r4 then k0 0 else k0 (-1)) else (bif r4 then k0 1 else (bif (decide (a1 < a2)) then k0 (-1) else (bif (decide (a1 > a2)) then k0 1 else k0 0))))))))
noncomputable def ypwy [Fuel]:C_z25z:=⟨NN,@z71z _⟩
noncomputable def z25z [Fuel]:yiBy:=@z25z_ ypwy
def ybNy (g:yiBy):Spec A:=fun args=>match args with | [.d (.int .i64 a1),.d (.int .i64 a2)]=>fun k=>g a1 a2 (fun z0=>k (.d (.int .i64 z0)) [.undef,.undef]) | _=>fun _=>none
noncomputable def yxfy:Code:=(Tryz.f64.body).getD .skip
noncomputable def yI0y (g:C_z25z):Env A:=mkE [(102,yd2y g.z71z)] [] [] [] [] [] [] [] [] []
theorem yEFy (g:C_z25z):Same (ybNy (@z25z_ g)) (abody (yI0y g) Tryz.f64 yxfy 0 [] [.asis] g.N):=by intro args; unfold ybNy; split; exact .inr fun R k=>(by kernel_rfl); exact .inl fun R k=>rfl
theorem ymPy [Fuel]:Ok 64 (ybNy (@z25z _)):=yacy std (.cons yFWy .nil) ⟨rfl,rfl,by kernel_rfl,rfl,rfl,rfl⟩ (yEFy ypwy) (cuts0 (fun _=>rfl) (by kernel_rfl)) Tryz.func64 (by kernel_rfl) (by kernel_rfl)
noncomputable def yFsy (g:C_z25z):Env A:=mkED [(102,yd2y g.z71z)] [] [] [] [] [] [] [] [] []
theorem yCcy (g:C_z25z):Same (ybNy (@z25z_ g)) (abody (yFsy g) Tryz.f64 yxfy 0 [] [.asis] g.N):=by intro args; unfold ybNy; split; exact .inr fun R k=>(by kernel_rfl); exact .inl fun R k=>rfl
theorem ynVy [Fuel]:OkD 64 (ybNy (@z25z _)):=yacy stdD (.cons yCoy .nil) ⟨rfl,rfl,by kernel_rfl,rfl,rfl,rfl⟩ (yCcy ypwy) (cuts0 (fun _=>rfl) (by kernel_rfl)) Tryz.func64 (by kernel_rfl) (by kernel_rfl)
abbrev yhhy:Type 1:=List Int→{R:Type}→(Int→Option R)→Option R
def z24z_L3 (g:Nat):Nat→Int→List Int→Int→Int→{R:Type}→(Int→Int→Option R)→(Int→Option R)→Option R
 | 0,_,_,_,_,_,_,_=>none
 | n + 1,v2,v3,v4,v5,_,e0,e1=>(bif (decide (v5 < v4)) then (get_ v3 v5 fun x7=>(bif (x7 != v2) then e0 x7 v2 else z24z_L3 g n v2 v3 v4 (w64 (v5 + 1)) e0 e1)) else e1 v2)
def z24z_ (g:Nat) (a1:List Int) {R:Type} (k0:Int→Option R):Option R :=
 (z24z_L3 g g 0 a1 (a1.length:Int) 0 (fun e8 e9=>k0 e8) (fun e10=>k0 e10))
noncomputable def z24z [Fuel]:yhhy:=@z24z_ NN
def ybEy (g:yhhy):Spec A:=fun args=>match args with | [.d (.sl 3 a1)]=>fun k=>g a1 (fun z0=>k (.d (.int .i64 z0)) [.undef]) | _=>fun _=>none
def ydey:SSt:=mkSh 18 0 [(3,.int .i64),(6,.sl 3),(7,.int .i64),(8,.int .i64)] []
def ybyy (g:Nat) (n:Nat):LPT A:=fun ps=>match ps with | [.d (.int .i64 p1),.d (.sl 3 p2),.d (.int .i64 p3),.d (.int .i64 p4)]=>fun K=>z24z_L3 g n p1 p2 p3 p4 (fun z0 z1=>K .ret (mkSt 18 0 [(2,.d (.int .i64 z0)),(3,.d (.int .i64 z1))] [])) (fun z0=>K (.exit 0) (mkSt 18 0 [(3,.d (.int .i64 z0))] [])) | _=>fun _=>none
noncomputable def yqvy:Code:=(Tryz.f63.body).getD .skip
noncomputable def ypZy (g:Nat):Env A:=mkE [] [] [(3,⟨[3,6,7,8],[],[],[],[],[],[]⟩)] [(3,⟨[2,3],[],[],[],[],[],[]⟩)] [(3,yaiy ydey (ybyy g g))] [] [] [] [] []
theorem yGXy [Fuel]:yajy (ypZy NN).C:=ct_of (P:=Tryz.prog) (T:=T) .nil (by kernel_rfl)
noncomputable def ygBy:Code:=sub [1,1,0,1,0,0] yqvy
theorem yBPy (g:Nat) (n:Nat):yamy (ypZy g) g ygBy ydey (ybyy g) n:=by intro ps; unfold ybyy; split; exact .inr fun R K=>(by kernel_rfl); exact .inl fun R K=>rfl
theorem yzvy [Fuel]:yagy (ypZy NN) NN ygBy:=yaky ydey (ybyy NN) (by kernel_rfl) yGXy (cuts0 (fun _=>rfl) (by kernel_rfl)) (fun ps R K=>by unfold ybyy; split <;> (try unfold z24z_L3) <;> rfl) (yBPy NN)
theorem yFky (g:Nat):Same (ybEy (@z24z_ g)) (abody (ypZy g) Tryz.f63 yqvy 0 [] [.asis] g):=by intro args; unfold ybEy; split; exact .inr fun R k=>(by kernel_rfl); exact .inl fun R k=>rfl
theorem ygKy [Fuel]:Ok 63 (ybEy (@z24z _)):=yacy std .nil ⟨rfl,rfl,by kernel_rfl,rfl,rfl,rfl⟩ (yFky NN) (cutsL (fun _=>rfl) (.cons yzvy .nil) (by kernel_rfl)) Tryz.func63 (by kernel_rfl) (by kernel_rfl)
noncomputable def ylWy (g:Nat):Env A:=mkED [] [] [(3,⟨[3,6,7,8],[],[],[],[],[],[]⟩)] [(3,⟨[2,3],[],[],[],[],[],[]⟩)] [(3,yaiy ydey (ybyy g g))] [] [] [] [] []
theorem yCry [Fuel]:yajy (ylWy NN).C:=ct_of (P:=Tryz.prog) (T:=TD) .nil (by kernel_rfl)
theorem yzKy (g:Nat) (n:Nat):yamy (ylWy g) g ygBy ydey (ybyy g) n:=by intro ps; unfold ybyy; split; exact .inr fun R K=>(by kernel_rfl); exact .inl fun R K=>rfl
theorem yway [Fuel]:yagy (ylWy NN) NN ygBy:=yaky ydey (ybyy NN) (by kernel_rfl) yCry (cuts0 (fun _=>rfl) (by kernel_rfl)) (fun ps R K=>by unfold ybyy; split <;> (try unfold z24z_L3) <;> rfl) (yzKy NN)
theorem yChy (g:Nat):Same (ybEy (@z24z_ g)) (abody (ylWy g) Tryz.f63 yqvy 0 [] [.asis] g):=by intro args; unfold ybEy; split; exact .inr fun R k=>(by kernel_rfl); exact .inl fun R k=>rfl
theorem ynNy [Fuel]:OkD 63 (ybEy (@z24z _)):=yacy stdD .nil ⟨rfl,rfl,by kernel_rfl,rfl,rfl,rfl⟩ (yChy NN) (cutsL (fun _=>rfl) (.cons yway .nil) (by kernel_rfl)) Tryz.func63 (by kernel_rfl) (by kernel_rfl)
abbrev ypGy:Type 1:=G_Deed→G_Deed→{R:Type}→(Int→Option R)→Option R
structure C_z35z where
 N:Nat
 z24z:yhhy
 z25z:yiBy
 strings_Compare:ya2y
def z35z_ (g:C_z35z) (a1 a2:G_Deed) {R:Type} (k0:Int→Option R):Option R :=
 (g.z25z a1.f_At a2.f_At (fun r3=>(g.strings_Compare a1.f_Site a2.f_Site (fun r4=>(g.z25z a1.f_No a2.f_No (fun r5=>(g.z24z [r3,r4,r5] (fun r6=>k0 r6))))))))
noncomputable def yoby [Fuel]:C_z35z:=⟨NN,@z24z _,@z25z _,@strings_Compare _⟩
noncomputable def z35z [Fuel]:ypGy:=@z35z_ yoby
def ydky (g:ypGy):Spec A:=fun args=>match args with | [.agg [.d (.str a1),.d (.int .i64 a2),.d (.int .i64 a3),.d (.int .i64 a4),.d (.int .i64 a5),.d (.int .i64 a6),.d (.str a7),.d (.str a8),.d (.int .i64 a9),.d (.int .i64 a10),.d (.str a11),.d (.str a12),.d (.str a13),.d (.str a14),.d (.int .i64 a15)],.agg [.d (.str a16),.d (.int .i64 a17),.d (.int .i64 a18),.d (.int .i64 a19),.d (.int .i64 a20),.d (.int .i64 a21),.d (.str a22),.d (.str a23),.d (.int .i64 a24),.d (.int .i64 a25),.d (.str a26),.d (.str a27),.d (.str a28),.d (.str a29),.d (.int .i64 a30)]]=>fun k=>g ⟨a1,a2,a3,a4,⟨a5,a6,a7,a8,a9,a10,a11,a12⟩,a13,a14,a15⟩ ⟨a16,a17,a18,a19,⟨a20,a21,a22,a23,a24,a25,a26,a27⟩,a28,a29,a30⟩ (fun z0=>k (.d (.int .i64 z0)) [.undef,.undef]) | _=>fun _=>none
noncomputable def ywBy:Code:=(Tryz.f34.body).getD .skip
noncomputable def yI5y (g:C_z35z):Env A:=mkE [(63,ybEy g.z24z),(64,ybNy g.z25z),(65,yaBy g.strings_Compare)] [(2,[0]),(3,[1]),(20,[2])] [] [] [] [] [] [] [] []
theorem yDWy (g:C_z35z):Same (ydky (@z35z_ g)) (abody (yI5y g) Tryz.f34 ywBy 3 [] [.asis] g.N):=by intro args; unfold ydky; split; exact .inr fun R k=>(by kernel_rfl); exact .inl fun R k=>rfl
theorem yl0y [Fuel]:Ok 34 (ydky (@z35z _)):=yacy std (.cons ygKy (.cons ymPy (.cons ya9y .nil))) ⟨rfl,rfl,by kernel_rfl,rfl,rfl,rfl⟩ (yDWy yoby) (cuts0 (fun _=>rfl) (by kernel_rfl)) Tryz.func34 (by kernel_rfl) (by kernel_rfl)
noncomputable def yD5y (g:C_z35z):Env A:=mkED [(63,ybEy g.z24z),(64,ybNy g.z25z),(65,yaBy g.strings_Compare)] [(2,[0]),(3,[1]),(20,[2])] [] [] [] [] [] [] [] []
theorem yC0y (g:C_z35z):Same (ydky (@z35z_ g)) (abody (yD5y g) Tryz.f34 ywBy 3 [] [.asis] g.N):=by intro args; unfold ydky; split; exact .inr fun R k=>(by kernel_rfl); exact .inl fun R k=>rfl
theorem ytmy [Fuel]:OkD 34 (ydky (@z35z _)):=yacy stdD (.cons ynNy (.cons ynVy (.cons ycNy .nil))) ⟨rfl,rfl,by kernel_rfl,rfl,rfl,rfl⟩ (yC0y yoby) (cuts0 (fun _=>rfl) (by kernel_rfl)) Tryz.func34 (by kernel_rfl) (by kernel_rfl)
abbrev ykIy:Type 1:=List G_Deed→{R:Type}→(Int→Option R)→Option R
structure C_z11z where
 N:Nat
 z35z:ypGy
 net_formed:yepy
def z11z_L4 (g:C_z11z):Nat→List G_Deed→List G_Deed→Int→Int→{R:Type}→(List G_Deed→Int→Option R)→(List G_Deed→Option R)→Option R
 | 0,_,_,_,_,_,_,_=>none
 | n + 1,v2,v3,v4,v5,_,e0,e1=>(bif (decide (v5 < v4)) then (get_ v3 v5 fun x10=>(g.net_formed x10 (fun r11=>(bif (r11 != 0) then e0 v2 r11 else (bif (decide (v5 > 0)) then (get_ v2 (w64 (v5 - 1)) fun x12=>(g.z35z x12 x10 (fun r13=>(bif (decide (r13 ≥ 0)) then e0 v2 7 else z11z_L4 g n v2 v3 v4 (w64 (v5 + 1)) e0 e1)))) else z11z_L4 g n v2 v3 v4 (w64 (v5 + 1)) e0 e1))))) else e1 v2)
def z11z_L14 (g:C_z11z):Nat→List G_Deed→Int→Int→List (G_net_own×Bool)→{R:Type}→(Int→Option R)→Option R→Option R
 | 0,_,_,_,_,_,_,_=>none
 | n + 1,v17,v18,v19,v20,_,e0,e1=>(bif (decide (v19 < v18)) then (get_ v17 v19 fun x22=>(bif ((ya0y (⟨x22.f_Site,x22.f_No⟩:G_net_own) v20).getD false) then e0 6 else z11z_L14 g n v17 v18 (w64 (v19 + 1)) (yaEy (⟨x22.f_Site,x22.f_No⟩:G_net_own) true v20) e0 e1)) else e1)
def z11z_ (g:C_z11z) (a1:List G_Deed) {R:Type} (k0:Int→Option R):Option R :=
 (bif (decide ((a1.length:Int) > 2000)) then k0 2 else (z11z_L4 g g.N a1 a1 (a1.length:Int) 0 (fun e14 e15=>k0 e15) (fun e16=>(z11z_L14 g g.N e16 (e16.length:Int) 0 [] (fun e23=>k0 e23) (k0 0)))))
noncomputable def ybTy [Fuel]:C_z11z:=⟨NN,@z35z _,@net_formed _⟩
noncomputable def z11z [Fuel]:ykIy:=@z11z_ ybTy
def ygJy (g:ykIy):Spec A:=fun args=>match args with | [.d (.sl 35 a1)]=>fun k=>g a1 (fun z0=>k (.d (.int .i64 z0)) [.undef]) | _=>fun _=>none
def yj9y:SSt:=mkSh 56 4 [(0,.sl 35),(13,.sl 35),(14,.int .i64),(15,.int .i64)] []
def ye3y (g:C_z11z) (n:Nat):LPT A:=fun ps=>match ps with | [.d (.sl 35 p1),.d (.sl 35 p2),.d (.int .i64 p3),.d (.int .i64 p4)]=>fun K=>z11z_L4 g n p1 p2 p3 p4 (fun z0 z1=>K .ret (mkSt 56 4 [(0,.d (.sl 35 z0)),(2,.d (.int .i64 z1))] [])) (fun z0=>K (.exit 0) (mkSt 56 4 [(0,.d (.sl 35 z0))] [])) | _=>fun _=>none
def yhTy:SSt:=mkSh 56 4 [(6,.mp 1),(39,.sl 35),(40,.int .i64),(41,.int .i64)] [(1,.mp 67 4)]
def ydyy (g:C_z11z) (n:Nat):LPT A:=fun ps=>match ps with | [.d (.sl 35 p1),.d (.int .i64 p2),.d (.int .i64 p3),.mp 67 4 p4]=>fun K=>z11z_L14 g n p1 p2 p3 p4 (fun z0=>K .ret (mkSt 56 4 [(2,.d (.int .i64 z0))] [])) (K (.exit 2) (mkSt 56 4 [] [])) | _=>fun _=>none
noncomputable def yqay:Code:=(Tryz.f28.body).getD .skip
noncomputable def yiDy (g:C_z11z):Env A:=mkE [(34,ydky g.z35z),(37,ycxy g.net_formed)] [(4,[0]),(8,[2]),(9,[3]),(38,[1])] [(4,⟨[0,13,14,15],[],[],[],[],[],[]⟩),(14,⟨[6,39,40,41],[],[1],[],[],[],[]⟩)] [(4,⟨[0,2],[],[],[],[],[],[]⟩),(14,⟨[2],[],[],[],[],[],[]⟩)] [(4,yaiy yj9y (ye3y g g.N)),(14,yaiy yhTy (ydyy g g.N))] [] [] [] [] []
theorem yxOy [Fuel]:yajy (yiDy ybTy).C:=ct_of (P:=Tryz.prog) (T:=T) (.cons yl0y (.cons ydQy .nil)) (by kernel_rfl)
noncomputable def yopy:Code:=sub [1,1,0,1,0,0] yqay
theorem yADy (g:C_z11z) (n:Nat):yamy (yiDy g) g.N yopy yj9y (ye3y g) n:=by intro ps; unfold ye3y; split; exact .inr fun R K=>(by kernel_rfl); exact .inl fun R K=>rfl
theorem yzey [Fuel]:yagy (yiDy ybTy) NN yopy:=yaky yj9y (ye3y ybTy) (by kernel_rfl) yxOy (cuts0 (fun _=>rfl) (by kernel_rfl)) (fun ps R K=>by unfold ye3y; split <;> (try unfold z11z_L4) <;> rfl) (yADy ybTy)
noncomputable def yncy:Code:=sub [1,1,1,1,0,1,0,0] yqay
theorem yzky (g:C_z11z) (n:Nat):yamy (yiDy g) g.N yncy yhTy (ydyy g) n:=by intro ps; unfold ydyy; split; exact .inr fun R K=>(by kernel_rfl); exact .inl fun R K=>rfl
theorem yvMy [Fuel]:yagy (yiDy ybTy) NN yncy:=yaky yhTy (ydyy ybTy) (by kernel_rfl) yxOy (cuts0 (fun _=>rfl) (by kernel_rfl)) (fun ps R K=>by unfold ydyy; split <;> (try unfold z11z_L14) <;> rfl) (yzky ybTy)
theorem yFLy (g:C_z11z):Same (ygJy (@z11z_ g)) (abody (yiDy g) Tryz.f28 yqay 4 [] [.asis] g.N):=by intro args; unfold ygJy; split; exact .inr fun R k=>(by kernel_rfl); exact .inl fun R k=>rfl
theorem yi2y [Fuel]:Ok 28 (ygJy (@z11z _)):=yacy std (.cons yl0y (.cons ydQy .nil)) ⟨rfl,rfl,by kernel_rfl,rfl,rfl,rfl⟩ (yFLy ybTy) (cutsL (fun _=>rfl) (.cons yzey (.cons yvMy .nil)) (by kernel_rfl)) Tryz.func28 (by kernel_rfl) (by kernel_rfl)
abbrev yury:Type 1:=Int→{R:Type}→(List G_Deed→Option R)→Option R
def z69z [Fuel]:yury:=@ygey G_Deed 176
def yiYy (g:yury):Spec A:=fun args=>match args with | [.d .nsl,.d (.int .i64 x1)]=>fun k=>g x1 (fun z=>k (.arr 35 z) [.undef,.undef]) | _=>fun _=>none
theorem ywZy [Fuel] (xs:Int) (R:Type) (k:IV A→List (IV A)→Option R):yiYy (@z69z _) [.d .nsl,.d (.int .i64 xs)] k = ygey (α:=A 35) 176 xs (fun z=>k (.arr 35 z) [.undef,.undef]):=by kernel_rfl
theorem yx8y [Fuel] (args:List (IV A)) (R:Type) (k:IV A→List (IV A)→Option R) (h:∀ xs:Int,args ≠ [.d .nsl,.d (.int .i64 xs)]):yiYy (@z69z _) args k = none:=by unfold yiYy; split; exact absurd rfl (h _); rfl
theorem ywPy [Fuel]:Ok 60 (yiYy (@z69z _)):=⟨yHJy (yziy rfl (tyOk Tryz.prog) (e:=35) (size:=15) (bytes:=176) (ty:=35) (by kernel_rfl) (fun w=>yISy Tryz.grow60 w) (fun n w hn hb hm=>yJty Tryz.grow60 Tryz.ti35 Tryz.zv35 (by kernel_rfl) (by kernel_rfl) 15 176 (by kernel_rfl) (by kernel_rfl) (by decide) (by kernel_rfl) n w hn hb hm)) ywZy yx8y,yERy ywZy yx8y,yaHy (fn:=Tryz.f60) Tryz.func60 (by kernel_rfl) (by kernel_rfl)⟩
abbrev yuVy:Type 1:=List (List G_Deed)→{R:Type}→(List G_Deed→Option R)→Option R
structure C_z10z where
 N:Nat
 z69z:yury
def z10z_L3 (g:C_z10z):Nat→List (List G_Deed)→Int→List (List G_Deed)→Int→Int→{R:Type}→(List (List G_Deed)→Int→Option R)→Option R
 | 0,_,_,_,_,_,_,_=>none
 | n + 1,v2,v3,v4,v5,v6,_,e0=>(bif (decide (v6 < v5)) then (get_ v4 v6 fun x8=>(bif (decide ((w64 (v3 + (x8.length:Int))) < 0)) then none else z10z_L3 g n v2 (w64 (v3 + (x8.length:Int))) v4 v5 (w64 (v6 + 1)) e0)) else e0 v2 v3)
def z10z_L11 (g:C_z10z):Nat→List (List G_Deed)→Int→Int→List G_Deed→{R:Type}→(List G_Deed→Option R)→Option R
 | 0,_,_,_,_,_,_=>none
 | n + 1,v12,v13,v14,v15,_,e0=>(bif (decide (v14 < v13)) then (get_ v12 v14 fun x17=>(bif (decide ((v15.length + x17.length) * 176≤yady)) then z10z_L11 g n v12 v13 (w64 (v14 + 1)) (v15 ++ x17) e0 else none)) else e0 v15)
def z10z_ (g:C_z10z) (a1:List (List G_Deed)) {R:Type} (k0:List G_Deed→Option R):Option R :=
 (z10z_L3 g g.N a1 0 a1 (a1.length:Int) 0 (fun e9 e10=>(g.z69z e10 (fun r11=>(z10z_L11 g g.N e9 (e9.length:Int) 0 r11 (fun e18=>k0 e18))))))
noncomputable def ydvy [Fuel]:C_z10z:=⟨NN,@z69z _⟩
noncomputable def z10z [Fuel]:yuVy:=@z10z_ ydvy
def ymdy (g:yuVy):Spec A:=fun args=>match args with | [.d (.sl 26 a1)]=>fun k=>g a1 (fun z0=>k (.arr 35 z0) [.undef]) | _=>fun _=>none
def yj1y:SSt:=mkSh 36 3 [(0,.sl 26),(3,.int .i64),(9,.sl 26),(10,.int .i64),(11,.int .i64)] []
def yegy (g:C_z10z) (n:Nat):LPT A:=fun ps=>match ps with | [.d (.sl 26 p1),.d (.int .i64 p2),.d (.sl 26 p3),.d (.int .i64 p4),.d (.int .i64 p5)]=>fun K=>z10z_L3 g n p1 p2 p3 p4 p5 (fun z0 z1=>K (.exit 0) (mkSt 36 3 [(0,.d (.sl 26 z0)),(3,.d (.int .i64 z1))] [])) | _=>fun _=>none
def yiay:SSt:=mkSh 36 3 [(6,.own 35 1),(25,.sl 26),(26,.int .i64),(27,.int .i64)] [(1,.row 35)]
def ydDy (g:C_z10z) (n:Nat):LPT A:=fun ps=>match ps with | [.d (.sl 26 p1),.d (.int .i64 p2),.d (.int .i64 p3),.d (.sl 35 p4)]=>fun K=>z10z_L11 g n p1 p2 p3 p4 (fun z0=>K (.exit 2) (mkSt 36 3 [(6,.own 35 1)] [(1,some (.row 35 z0))])) | _=>fun _=>none
noncomputable def yqwy:Code:=(Tryz.f32.body).getD .skip
noncomputable def yiry (g:C_z10z):Env A:=mkE [(60,yiYy g.z69z)] [(24,[0]),(33,[2])] [(3,⟨[0,3,9,10,11],[],[],[],[],[],[]⟩),(11,⟨[6,25,26,27],[(6,35,1)],[],[],[],[],[]⟩)] [(3,⟨[0,3],[],[],[],[],[],[]⟩),(11,⟨[6],[],[1],[],[],[],[]⟩)] [(3,yaiy yj1y (yegy g g.N)),(11,yaiy yiay (ydDy g g.N))] [] [] [] [(60,0)] []
theorem yxUy [Fuel]:yajy (yiry ydvy).C:=ct_of (P:=Tryz.prog) (T:=T) (.cons ywPy .nil) (by kernel_rfl)
noncomputable def ypky:Code:=sub [1,1,0,1,0,0] yqwy
theorem yAfy (g:C_z10z) (n:Nat):yamy (yiry g) g.N ypky yj1y (yegy g) n:=by intro ps; unfold yegy; split; exact .inr fun R K=>(by kernel_rfl); exact .inl fun R K=>rfl
theorem yy2y [Fuel]:yagy (yiry ydvy) NN ypky:=yaky yj1y (yegy ydvy) (by kernel_rfl) yxUy (cuts0 (fun _=>rfl) (by kernel_rfl)) (fun ps R K=>by unfold yegy; split <;> (try unfold z10z_L3) <;> rfl) (yAfy ydvy)
noncomputable def ynmy:Code:=sub [1,1,1,1,0,1,0,0] yqwy
theorem yzDy (g:C_z10z) (n:Nat):yamy (yiry g) g.N ynmy yiay (ydDy g) n:=by intro ps; unfold ydDy; split; exact .inr fun R K=>(by kernel_rfl); exact .inl fun R K=>rfl
theorem ywhy [Fuel]:yagy (yiry ydvy) NN ynmy:=yaky yiay (ydDy ydvy) (by kernel_rfl) yxUy (cuts0 (fun _=>rfl) (by kernel_rfl)) (fun ps R K=>by unfold ydDy; split <;> (try unfold z10z_L11) <;> rfl) (yzDy ydvy)
theorem yFwy (g:C_z10z):Same (ymdy (@z10z_ g)) (abody (yiry g) Tryz.f32 yqwy 3 [] [.arr 35] g.N):=by intro args; unfold ymdy; split; exact .inr fun R k=>(by kernel_rfl); exact .inl fun R k=>rfl
theorem yx4y [Fuel]:Ok 32 (ymdy (@z10z _)):=yacy std (.cons ywPy .nil) ⟨rfl,rfl,by kernel_rfl,rfl,rfl,rfl⟩ (yFwy ydvy) (cutsL (fun _=>rfl) (.cons yy2y (.cons ywhy .nil)) (by kernel_rfl)) Tryz.func32 (by kernel_rfl) (by kernel_rfl)
end Go.Am
