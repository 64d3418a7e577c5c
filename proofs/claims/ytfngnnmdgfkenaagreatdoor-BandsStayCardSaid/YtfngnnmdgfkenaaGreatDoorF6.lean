/- The functions of the program as Lean functions, each shown to be what the code computes, part 6. No condition: lemmas for the claim. -/
import Derived.Test.YtfngnnmdgfkenaaGreatDoorF0
import Derived.Test.YtfngnnmdgfkenaaGreatDoorFSh
import Derived.Test.YtfngnnmdgfkenaaGreatDoorF1
import Derived.Test.YtfngnnmdgfkenaaGreatDoorF4
import Derived.Test.YtfngnnmdgfkenaaGreatDoorF5
set_option linter.unusedVariables false
set_option maxRecDepth 100000
namespace Go.Am
open Go Go.Proofs
abbrev yrWy:Type 1:=List G_Segment→{R:Type}→(Int→Option R)→Option R
structure C_z34z where
 N:Nat
 kit_IsKey:ybhy
 z53z:yxCy
 kit_IsTime:yggy
 z85z:yxBy
def z34z_L4 (g:C_z34z):Nat→List G_Segment→List G_Segment→Int→Int→{R:Type}→(Int→Option R)→Option R→Option R
 | 0,_,_,_,_,_,_,_=>none
 | n + 1,v2,v3,v4,v5,_,e0,e1=>(bif (decide (v5 < v4)) then (get_ v3 v5 fun x12=>(g.kit_IsKey x12.f_Class (fun r13=>(bif (!r13) then e0 5 else (bif (decide (x12.f_Low < 0)) then e0 1 else (bif (decide (x12.f_Low ≥ x12.f_High)) then e0 1 else (bif (decide (x12.f_High > 30000000000)) then e0 1 else (g.z53z x12.f_Modes (fun r14=>(bif (r14 != 0) then e0 r14 else (g.kit_IsTime x12.f_Time (fun r15=>(bif (!r15) then e0 1 else (bif (decide (v5 > 0)) then (get_ v2 (w64 (v5 - 1)) fun x16=>(g.z85z x16 x12 (fun r17=>(bif (decide (r17 ≥ 0)) then e0 7 else z34z_L4 g n v2 v3 v4 (w64 (v5 + 1)) e0 e1)))) else z34z_L4 g n v2 v3 v4 (w64 (v5 + 1)) e0 e1)))))))))))))) else e1)
def z34z_ (g:C_z34z) (a1:List G_Segment) {R:Type} (k0:Int→Option R):Option R :=
 (bif (decide ((a1.length:Int) > 500)) then k0 2 else (z34z_L4 g g.N a1 a1 (a1.length:Int) 0 (fun e18=>k0 e18) (k0 0)))
noncomputable def ydFy [Fuel]:C_z34z:=⟨NN,@kit_IsKey _,@z53z _,@kit_IsTime _,@z85z _⟩
noncomputable def z34z [Fuel]:yrWy:=@z34z_ ydFy
def ykjy (g:yrWy):Spec A:=fun args=>match args with | [.d (.sl 52 a1)]=>fun k=>g a1 (fun z0=>k (.d (.int .i64 z0)) [.undef]) | _=>fun _=>none
def ymsy:SSt:=mkSh 58 1 [(0,.sl 52),(9,.sl 52),(10,.int .i64),(11,.int .i64)] []
def ygjy (g:C_z34z) (n:Nat):LPT A:=fun ps=>match ps with | [.d (.sl 52 p1),.d (.sl 52 p2),.d (.int .i64 p3),.d (.int .i64 p4)]=>fun K=>z34z_L4 g n p1 p2 p3 p4 (fun z0=>K .ret (mkSt 58 1 [(2,.d (.int .i64 z0))] [])) (K (.exit 0) (mkSt 58 1 [] [])) | _=>fun _=>none
noncomputable def yDoy:Code:=(Tryz.f60.body).getD .skip
noncomputable def yrvy (g:C_z34z):Env A:=mkE [(62,yaUy g.kit_IsKey),(102,ypey g.z53z),(103,yc9y g.kit_IsTime),(104,ypEy g.z85z)] [(4,[0])] [(4,⟨[0,9,10,11],[],[],[],[],[],[]⟩)] [(4,⟨[2],[],[],[],[],[],[]⟩)] [(4,yady ymsy (ygjy g g.N))] [] [] [] [] []
theorem yMHy [Fuel]:yahy (yrvy ydFy).C:=ct_of (P:=Tryz.prog) (T:=T) (.cons yaDy (.cons yDey (.cons yexy (.cons yCJy .nil)))) (by kernel_rfl)
noncomputable def ysFy:Code:=sub [1,1,0,1,0,0] yDoy
theorem yG4y (g:C_z34z) (n:Nat):yaiy (yrvy g) g.N ysFy ymsy (ygjy g) n:=by intro ps; unfold ygjy; split; exact .inr fun R K=>(by kernel_rfl); exact .inl fun R K=>rfl
theorem yF9y [Fuel]:yaby (yrvy ydFy) NN ysFy:=yacy ymsy (ygjy ydFy) (by kernel_rfl) yMHy (cuts0 (fun _=>rfl) (by kernel_rfl)) (fun ps R K=>by unfold ygjy; split <;> (try unfold z34z_L4) <;> rfl) (yG4y ydFy)
theorem yMOy (g:C_z34z):Same (ykjy (@z34z_ g)) (abody (yrvy g) Tryz.f60 yDoy 1 [] [.asis] g.N):=by intro args; unfold ykjy; split; exact .inr fun R k=>(by kernel_rfl); exact .inl fun R k=>rfl
theorem yCPy [Fuel]:Ok 60 (ykjy (@z34z _)):=yaay std (.cons yaDy (.cons yDey (.cons yexy (.cons yCJy .nil)))) ⟨rfl,rfl,by kernel_rfl,rfl,rfl,rfl⟩ (yMOy ydFy) (cutsL (fun _=>rfl) (.cons yF9y .nil) (by kernel_rfl)) Tryz.func60 (by kernel_rfl) (by kernel_rfl)
abbrev yufy:Type 1:=Int→{R:Type}→(Bool→Option R)→Option R
def z123z_ (g:Nat) (a1:Int) {R:Type} (k0:Bool→Option R):Option R :=
 (bif (decide (a1 ≥ 97)) then k0 (decide (a1≤122)) else k0 false)
noncomputable def z123z [Fuel]:yufy:=@z123z_ NN
def ylYy (g:yufy):Spec A:=fun args=>match args with | [.d (.int .u8 a1)]=>fun k=>g a1 (fun z0=>k (.d (.bool z0)) [.undef]) | _=>fun _=>none
noncomputable def yJcy:Code:=(Tryz.f223.body).getD .skip
noncomputable def yMTy (g:Nat):Env A:=mkE [] [] [] [] [] [] [] [] [] []
theorem yJ9y (g:Nat):Same (ylYy (@z123z_ g)) (abody (yMTy g) Tryz.f223 yJcy 0 [] [.asis] g):=by intro args; unfold ylYy; split; exact .inr fun R k=>(by kernel_rfl); exact .inl fun R k=>rfl
theorem yyDy [Fuel]:Ok 223 (ylYy (@z123z _)):=yaay std .nil ⟨rfl,rfl,by kernel_rfl,rfl,rfl,rfl⟩ (yJ9y NN) (cuts0 (fun _=>rfl) (by kernel_rfl)) Tryz.func223 (by kernel_rfl) (by kernel_rfl)
abbrev yoVy:Type 1:=Int→{R:Type}→(Bool→Option R)→Option R
def z118z_ (g:Nat) (a1:Int) {R:Type} (k0:Bool→Option R):Option R :=
 (bif (decide (a1 ≥ 48)) then k0 (decide (a1≤57)) else k0 false)
noncomputable def z118z [Fuel]:yoVy:=@z118z_ NN
def yiAy (g:yoVy):Spec A:=fun args=>match args with | [.d (.int .u8 a1)]=>fun k=>g a1 (fun z0=>k (.d (.bool z0)) [.undef]) | _=>fun _=>none
noncomputable def yLay:Code:=(Tryz.f199.body).getD .skip
noncomputable def yP2y (g:Nat):Env A:=mkE [] [] [] [] [] [] [] [] [] []
theorem yIQy (g:Nat):Same (yiAy (@z118z_ g)) (abody (yP2y g) Tryz.f199 yLay 0 [] [.asis] g):=by intro args; unfold yiAy; split; exact .inr fun R k=>(by kernel_rfl); exact .inl fun R k=>rfl
theorem yq7y [Fuel]:Ok 199 (yiAy (@z118z _)):=yaay std .nil ⟨rfl,rfl,by kernel_rfl,rfl,rfl,rfl⟩ (yIQy NN) (cuts0 (fun _=>rfl) (by kernel_rfl)) Tryz.func199 (by kernel_rfl) (by kernel_rfl)
abbrev ytiy:Type 1:=List UInt8→{R:Type}→(Int→Bool→Option R)→Option R
structure C_z77z where
 N:Nat
 z118z:yoVy
 z123z:yufy
def z77z_L2 (g:C_z77z):Nat→List UInt8→Int→Int→Int→{R:Type}→(Int→Bool→Option R)→(Int→Option R)→Option R
 | 0,_,_,_,_,_,_,_=>none
 | n + 1,v2,v3,v4,v5,_,e0,e1=>(bif (decide (v5 < v4)) then (get_ v2 v5 fun x10=>(g.z123z (x10.toNat:Int) (fun r11=>(bif r11 then z77z_L2 g n v2 (w64 (v3 + 1)) v4 (w64 (v5 + 1)) e0 e1 else (get_ v2 v5 fun x12=>(g.z118z (x12.toNat:Int) (fun r13=>(bif (!r13) then e0 0 false else z77z_L2 g n v2 v3 v4 (w64 (v5 + 1)) e0 e1)))))))) else e1 v3)
def z77z_ (g:C_z77z) (a1:List UInt8) {R:Type} (k0:Int→Bool→Option R):Option R :=
 (z77z_L2 g g.N a1 0 (a1.length:Int) 0 (fun e14 e15=>k0 e14 e15) (fun e16=>k0 e16 true))
noncomputable def ykey [Fuel]:C_z77z:=⟨NN,@z118z _,@z123z _⟩
noncomputable def z77z [Fuel]:ytiy:=@z77z_ ykey
def ykZy (g:ytiy):Spec A:=fun args=>match args with | [.d (.str a1)]=>fun k=>g a1 (fun z0 z1=>k (.tup [.d (.int .i64 z0),.d (.bool z1)]) [.undef]) | _=>fun _=>none
def ylqy:SSt:=mkSh 25 0 [(0,.str),(2,.int .i64),(6,.int .i64),(7,.int .i64)] []
def yfqy (g:C_z77z) (n:Nat):LPT A:=fun ps=>match ps with | [.d (.str p1),.d (.int .i64 p2),.d (.int .i64 p3),.d (.int .i64 p4)]=>fun K=>z77z_L2 g n p1 p2 p3 p4 (fun z0 z1=>K .ret (mkSt 25 0 [(2,.d (.int .i64 z0)),(3,.d (.bool z1))] [])) (fun z0=>K (.exit 0) (mkSt 25 0 [(2,.d (.int .i64 z0))] [])) | _=>fun _=>none
noncomputable def yxvy:Code:=(Tryz.f198.body).getD .skip
noncomputable def yswy (g:C_z77z):Env A:=mkE [(199,yiAy g.z118z),(223,ylYy g.z123z)] [] [(2,⟨[0,2,6,7],[],[],[],[],[],[]⟩)] [(2,⟨[2,3],[],[],[],[],[],[]⟩)] [(2,yady ylqy (yfqy g g.N))] [] [] [] [] []
theorem yPzy [Fuel]:yahy (yswy ykey).C:=ct_of (P:=Tryz.prog) (T:=T) (.cons yq7y (.cons yyDy .nil)) (by kernel_rfl)
noncomputable def yryy:Code:=sub [1,0,1,0,0] yxvy
theorem yIay (g:C_z77z) (n:Nat):yaiy (yswy g) g.N yryy ylqy (yfqy g) n:=by intro ps; unfold yfqy; split; exact .inr fun R K=>(by kernel_rfl); exact .inl fun R K=>rfl
theorem yFCy [Fuel]:yaby (yswy ykey) NN yryy:=yacy ylqy (yfqy ykey) (by kernel_rfl) yPzy (cuts0 (fun _=>rfl) (by kernel_rfl)) (fun ps R K=>by unfold yfqy; split <;> (try unfold z77z_L2) <;> rfl) (yIay ykey)
theorem yPoy (g:C_z77z):Same (ykZy (@z77z_ g)) (abody (yswy g) Tryz.f198 yxvy 0 [] [.asis,.asis] g.N):=by intro args; unfold ykZy; split; exact .inr fun R k=>(by kernel_rfl); exact .inl fun R k=>rfl
theorem yDxy [Fuel]:Ok 198 (ykZy (@z77z _)):=yaay std (.cons yq7y (.cons yyDy .nil)) ⟨rfl,rfl,by kernel_rfl,rfl,rfl,rfl⟩ (yPoy ykey) (cutsL (fun _=>rfl) (.cons yFCy .nil) (by kernel_rfl)) Tryz.func198 (by kernel_rfl) (by kernel_rfl)
abbrev yivy:Type 1:=List UInt8→{R:Type}→(Int→Bool→Option R)→Option R
structure C_call_split where
 N:Nat
 z22z:ytpy
 z77z:ytiy
def yquy (g:C_call_split) (a1:List UInt8) {R:Type} (k0:Int→Bool→Option R):Option R :=
 (g.z77z a1 (fun r2 r3=>(bif (!r3) then k0 0 false else (bif (decide ((a1.length:Int) > 10)) then k0 0 false else (g.z22z a1 [48,49,50,51,52,53,54,55,56,57] (fun r4=>(bif (decide (r4 < 1)) then k0 0 false else (bif (decide (r4 > 3)) then k0 0 false else (bif (decide ((w64 ((w64 ((a1.length:Int) - r4)) - 1)) < 1)) then k0 0 false else (bif (decide ((w64 ((w64 ((a1.length:Int) - r4)) - 1)) > 4)) then k0 0 false else (bif (decide (0≤r4) && decide (r4≤(a1.length:Int))) then (g.z77z (a1.take (r4:Int).toNat) (fun r5 r6=>k0 r4 (decide (r5 > 0)))) else none)))))))))))
noncomputable def yocy [Fuel]:C_call_split:=⟨NN,@z22z _,@z77z _⟩
noncomputable def call_split [Fuel]:yivy:=@yquy yocy
def yesy (g:yivy):Spec A:=fun args=>match args with | [.d (.str a1)]=>fun k=>g a1 (fun z0 z1=>k (.tup [.d (.int .i64 z0),.d (.bool z1)]) [.undef]) | _=>fun _=>none
noncomputable def yJRy:Code:=(Tryz.f197.body).getD .skip
noncomputable def yxFy (g:C_call_split):Env A:=mkE [(179,yksy g.z22z),(198,ykZy g.z77z)] [] [] [] [] [] [] [] [] []
theorem yw4y (g:C_call_split):Same (yesy (@yquy g)) (abody (yxFy g) Tryz.f197 yJRy 0 [] [.asis,.asis] g.N):=by intro args; unfold yesy; split; exact .inr fun R k=>(by kernel_rfl); exact .inl fun R k=>rfl
theorem ywZy [Fuel]:Ok 197 (yesy (@call_split _)):=yaay std (.cons yD8y (.cons yDxy .nil)) ⟨rfl,rfl,by kernel_rfl,rfl,rfl,rfl⟩ (yw4y yocy) (cuts0 (fun _=>rfl) (by kernel_rfl)) Tryz.func197 (by kernel_rfl) (by kernel_rfl)
abbrev yi6y:Type 1:=List UInt8→{R:Type}→(G_Parts→Bool→Option R)→Option R
structure C_call_based where
 N:Nat
 call_split:yivy
def yp6y (g:C_call_based) (a1:List UInt8) {R:Type} (k0:G_Parts→Bool→Option R):Option R :=
 (g.call_split a1 (fun r2 r3=>(bif (!r3) then k0 (⟨[],[],[],0,[]⟩:G_Parts) false else (bif (decide (0≤(w64 (r2 + 1))) && decide ((w64 (r2 + 1))≤(a1.length:Int))) then (bif (decide (0≤(w64 (r2 + 1))) && decide ((w64 (r2 + 1))≤(a1.length:Int))) then k0 (⟨a1,(a1.take ((w64 (r2 + 1)):Int).toNat),(a1.drop ((w64 (r2 + 1)):Int).toNat),0,[]⟩:G_Parts) true else none) else none))))
noncomputable def ynty [Fuel]:C_call_based:=⟨NN,@call_split _⟩
noncomputable def call_based [Fuel]:yi6y:=@yp6y ynty
def yeAy (g:yi6y):Spec A:=fun args=>match args with | [.d (.str a1)]=>fun k=>g a1 (fun z0 z1=>k (.tup [.agg [.d (.str z0.f_Base),.d (.str z0.f_Prefix),.d (.str z0.f_Suffix),.d (.int .i64 z0.f_Kind),.d (.str z0.f_Added)],.d (.bool z1)]) [.undef]) | _=>fun _=>none
noncomputable def yK8y:Code:=(Tryz.f158.body).getD .skip
noncomputable def yzdy (g:C_call_based):Env A:=mkE [(197,yesy g.call_split)] [(2,[0])] [] [] [] [] [] [] [] []
theorem ywRy (g:C_call_based):Same (yeAy (@yp6y g)) (abody (yzdy g) Tryz.f158 yK8y 1 [] [.asis,.asis] g.N):=by intro args; unfold yeAy; split; exact .inr fun R k=>(by kernel_rfl); exact .inl fun R k=>rfl
theorem ywBy [Fuel]:Ok 158 (yeAy (@call_based _)):=yaay std (.cons ywZy .nil) ⟨rfl,rfl,by kernel_rfl,rfl,rfl,rfl⟩ (ywRy ynty) (cuts0 (fun _=>rfl) (by kernel_rfl)) Tryz.func158 (by kernel_rfl) (by kernel_rfl)
abbrev ypuy:Type 1:=List UInt8→{R:Type}→(Bool→Option R)→Option R
structure C_z108z where
 N:Nat
 z77z:ytiy
def z108z_ (g:C_z108z) (a1:List UInt8) {R:Type} (k0:Bool→Option R):Option R :=
 (g.z77z a1 (fun r2 r3=>(bif r3 then (bif (decide (r2 > 0)) then k0 (decide ((a1.length:Int)≤4)) else k0 false) else k0 false)))
noncomputable def yDuy [Fuel]:C_z108z:=⟨NN,@z77z _⟩
noncomputable def z108z [Fuel]:ypuy:=@z108z_ yDuy
def yjcy (g:ypuy):Spec A:=fun args=>match args with | [.d (.str a1)]=>fun k=>g a1 (fun z0=>k (.d (.bool z0)) [.undef]) | _=>fun _=>none
noncomputable def yKjy:Code:=(Tryz.f159.body).getD .skip
noncomputable def yPpy (g:C_z108z):Env A:=mkE [(198,ykZy g.z77z)] [] [] [] [] [] [] [] [] []
theorem yKUy (g:C_z108z):Same (yjcy (@z108z_ g)) (abody (yPpy g) Tryz.f159 yKjy 0 [] [.asis] g.N):=by intro args; unfold yjcy; split; exact .inr fun R k=>(by kernel_rfl); exact .inl fun R k=>rfl
theorem yA1y [Fuel]:Ok 159 (yjcy (@z108z _)):=yaay std (.cons yDxy .nil) ⟨rfl,rfl,by kernel_rfl,rfl,rfl,rfl⟩ (yKUy yDuy) (cuts0 (fun _=>rfl) (by kernel_rfl)) Tryz.func159 (by kernel_rfl) (by kernel_rfl)
abbrev yjNy:Type 1:=List UInt8→{R:Type}→(Int→List UInt8→Bool→Option R)→Option R
structure C_call_tail where
 N:Nat
 z108z:ypuy
 z118z:yoVy
def ytDy (g:C_call_tail) (a1:List UInt8) {R:Type} (k0:Int→List UInt8→Bool→Option R):Option R :=
 (bif (a1 == [112]) then k0 3 [] true else (bif (a1 == [109]) then k0 4 [] true else (bif (a1 == [109,109]) then k0 5 [] true else (bif (a1 == [97,109]) then k0 6 [] true else (bif ((a1.length:Int) == 1) then (at_ a1 0 fun x2=>(g.z118z (x2.toNat:Int) (fun r3=>(bif r3 then k0 2 a1 true else (g.z108z a1 (fun r4=>k0 1 a1 r4)))))) else (g.z108z a1 (fun r5=>k0 1 a1 r5)))))))
noncomputable def yqky [Fuel]:C_call_tail:=⟨NN,@z108z _,@z118z _⟩
noncomputable def call_tail [Fuel]:yjNy:=@ytDy yqky
def yfWy (g:yjNy):Spec A:=fun args=>match args with | [.d (.str a1)]=>fun k=>g a1 (fun z0 z1 z2=>k (.tup [.d (.int .i64 z0),.d (.str z1),.d (.bool z2)]) [.undef]) | _=>fun _=>none
noncomputable def yJOy:Code:=(Tryz.f160.body).getD .skip
noncomputable def yBLy (g:C_call_tail):Env A:=mkE [(159,yjcy g.z108z),(199,yiAy g.z118z)] [] [] [] [] [] [] [] [] []
theorem yAKy (g:C_call_tail):Same (yfWy (@ytDy g)) (abody (yBLy g) Tryz.f160 yJOy 0 [] [.asis,.asis,.asis] g.N):=by intro args; unfold yfWy; split; exact .inr fun R k=>(by kernel_rfl); exact .inl fun R k=>rfl
theorem yA9y [Fuel]:Ok 160 (yfWy (@call_tail _)):=yaay std (.cons yA1y (.cons yq7y .nil)) ⟨rfl,rfl,by kernel_rfl,rfl,rfl,rfl⟩ (yAKy yqky) (cuts0 (fun _=>rfl) (by kernel_rfl)) Tryz.func160 (by kernel_rfl) (by kernel_rfl)
abbrev yfCy:Type 1:=List UInt8→{R:Type}→(G_Parts→Bool→Option R)→Option R
structure C_call_Parts where
 N:Nat
 z115z:ypsy
 call_based:yi6y
 z108z:ypuy
 call_tail:yjNy
def yp3y (g:C_call_Parts) (a1:List UInt8) {R:Type} (k0:G_Parts→Bool→Option R):Option R :=
 (bif (decide ((a1.length:Int) > 14)) then k0 (⟨[],[],[],0,[]⟩:G_Parts) false else (g.call_based a1 (fun r2 r3=>(bif r3 then k0 r2 true else (g.z115z a1 [47] (fun r4 r5 r6=>(bif (!r6) then k0 (⟨[],[],[],0,[]⟩:G_Parts) false else (g.call_based r5 (fun r7 r8=>(bif r8 then (g.z108z r4 (fun r9=>(bif r9 then k0 (⟨r7.f_Base,r7.f_Prefix,r7.f_Suffix,1,r4⟩:G_Parts) true else (g.call_based r4 (fun r10 r11=>(g.call_tail r5 (fun r12 r13 r14=>(bif (!r11) then k0 (⟨[],[],[],0,[]⟩:G_Parts) false else (bif (!r14) then k0 (⟨[],[],[],0,[]⟩:G_Parts) false else k0 (⟨r10.f_Base,r10.f_Prefix,r10.f_Suffix,r12,r13⟩:G_Parts) true))))))))) else (g.call_based r4 (fun r15 r16=>(g.call_tail r5 (fun r17 r18 r19=>(bif (!r16) then k0 (⟨[],[],[],0,[]⟩:G_Parts) false else (bif (!r19) then k0 (⟨[],[],[],0,[]⟩:G_Parts) false else k0 (⟨r15.f_Base,r15.f_Prefix,r15.f_Suffix,r17,r18⟩:G_Parts) true))))))))))))))))
noncomputable def ynHy [Fuel]:C_call_Parts:=⟨NN,@z115z _,@call_based _,@z108z _,@call_tail _⟩
noncomputable def call_Parts [Fuel]:yfCy:=@yp3y ynHy
def yc2y (g:yfCy):Spec A:=fun args=>match args with | [.d (.str a1)]=>fun k=>g a1 (fun z0 z1=>k (.tup [.agg [.d (.str z0.f_Base),.d (.str z0.f_Prefix),.d (.str z0.f_Suffix),.d (.int .i64 z0.f_Kind),.d (.str z0.f_Added)],.d (.bool z1)]) [.undef]) | _=>fun _=>none
noncomputable def yJay:Code:=(Tryz.f111.body).getD .skip
noncomputable def yxZy (g:C_call_Parts):Env A:=mkE [(143,yiTy g.z115z),(158,yeAy g.call_based),(159,yjcy g.z108z),(160,yfWy g.call_tail)] [(2,[0]),(4,[1]),(9,[2]),(11,[3])] [] [] [] [] [] [] [] []
theorem ywYy (g:C_call_Parts):Same (yc2y (@yp3y g)) (abody (yxZy g) Tryz.f111 yJay 4 [] [.asis,.asis] g.N):=by intro args; unfold yc2y; split; exact .inr fun R k=>(by kernel_rfl); exact .inl fun R k=>rfl
theorem ym1y [Fuel]:Ok 111 (yc2y (@call_Parts _)):=yaay std (.cons yyYy (.cons ywBy (.cons yA1y (.cons yA9y .nil)))) ⟨rfl,rfl,by kernel_rfl,rfl,rfl,rfl⟩ (ywYy ynHy) (cuts0 (fun _=>rfl) (by kernel_rfl)) Tryz.func111 (by kernel_rfl) (by kernel_rfl)
abbrev ye1y:Type 1:=List UInt8→{R:Type}→(Bool→Option R)→Option R
structure C_call_Is where
 N:Nat
 call_Parts:yfCy
def yz0y (g:C_call_Is) (a1:List UInt8) {R:Type} (k0:Bool→Option R):Option R :=
 (g.call_Parts a1 (fun r2 r3=>k0 r3))
noncomputable def ywiy [Fuel]:C_call_Is:=⟨NN,@call_Parts _⟩
noncomputable def call_Is [Fuel]:ye1y:=@yz0y ywiy
def ycVy (g:ye1y):Spec A:=fun args=>match args with | [.d (.str a1)]=>fun k=>g a1 (fun z0=>k (.d (.bool z0)) [.undef]) | _=>fun _=>none
noncomputable def yLry:Code:=(Tryz.f71.body).getD .skip
noncomputable def yGvy (g:C_call_Is):Env A:=mkE [(111,yc2y g.call_Parts)] [(3,[0])] [] [] [] [] [] [] [] []
theorem yGcy (g:C_call_Is):Same (ycVy (@yz0y g)) (abody (yGvy g) Tryz.f71 yLry 1 [] [.asis] g.N):=by intro args; unfold ycVy; split; exact .inr fun R k=>(by kernel_rfl); exact .inl fun R k=>rfl
theorem ycny [Fuel]:Ok 71 (ycVy (@call_Is _)):=yaay std (.cons ym1y .nil) ⟨rfl,rfl,by kernel_rfl,rfl,rfl,rfl⟩ (yGcy ywiy) (cuts0 (fun _=>rfl) (by kernel_rfl)) Tryz.func71 (by kernel_rfl) (by kernel_rfl)
abbrev yzPy:Type 1:=G_Busy→G_Busy→{R:Type}→(Int→Option R)→Option R
structure C_z96z where
 N:Nat
 z29z:yfyy
 z40z:yfgy
 strings_Compare:yaQy
def z96z_ (g:C_z96z) (a1 a2:G_Busy) {R:Type} (k0:Int→Option R):Option R :=
 (g.z29z a1.f_Time.f_From a2.f_Time.f_From (fun r3=>(g.z29z a1.f_Hertz a2.f_Hertz (fun r4=>(g.strings_Compare a1.f_Who a2.f_Who (fun r5=>(g.z40z [r3,r4,r5] (fun r6=>k0 r6))))))))
noncomputable def yyVy [Fuel]:C_z96z:=⟨NN,@z29z _,@z40z _,@strings_Compare _⟩
noncomputable def z96z [Fuel]:yzPy:=@z96z_ yyVy
def yoUy (g:yzPy):Spec A:=fun args=>match args with | [.agg [.d (.str a1),.d (.int .i64 a2),.d (.int .i64 a3),.d (.int .i64 a4),.d (.int .i64 a5)],.agg [.d (.str a6),.d (.int .i64 a7),.d (.int .i64 a8),.d (.int .i64 a9),.d (.int .i64 a10)]]=>fun k=>g ⟨a1,a2,a3,⟨a4,a5⟩⟩ ⟨a6,a7,a8,⟨a9,a10⟩⟩ (fun z0=>k (.d (.int .i64 z0)) [.undef,.undef]) | _=>fun _=>none
noncomputable def yKsy:Code:=(Tryz.f105.body).getD .skip
noncomputable def yQvy (g:C_z96z):Env A:=mkE [(52,ybFy g.z29z),(75,ybGy g.z40z),(76,yazy g.strings_Compare)] [(2,[0]),(3,[1]),(22,[2])] [] [] [] [] [] [] [] []
theorem yOny (g:C_z96z):Same (yoUy (@z96z_ g)) (abody (yQvy g) Tryz.f105 yKsy 3 [] [.asis] g.N):=by intro args; unfold yoUy; split; exact .inr fun R k=>(by kernel_rfl); exact .inl fun R k=>rfl
theorem yCsy [Fuel]:Ok 105 (yoUy (@z96z _)):=yaay std (.cons ye2y (.cons yeVy (.cons yaYy .nil))) ⟨rfl,rfl,by kernel_rfl,rfl,rfl,rfl⟩ (yOny yyVy) (cuts0 (fun _=>rfl) (by kernel_rfl)) Tryz.func105 (by kernel_rfl) (by kernel_rfl)
abbrev yy3y:Type 1:=List G_Busy→{R:Type}→(Int→Option R)→Option R
structure C_z59z where
 N:Nat
 z48z:ycmy
 call_Is:ye1y
 kit_IsTime:yggy
 z96z:yzPy
def z59z_L4 (g:C_z59z):Nat→List G_Busy→List G_Busy→Int→Int→{R:Type}→(Int→Option R)→Option R→Option R
 | 0,_,_,_,_,_,_,_=>none
 | n + 1,v2,v3,v4,v5,_,e0,e1=>(bif (decide (v5 < v4)) then (get_ v3 v5 fun x13=>(g.call_Is x13.f_Who (fun r14=>(bif (!r14) then e0 3 else (g.z48z x13.f_Hertz 0 30000000000 (fun r15=>(bif r15 then e0 1 else (g.z48z x13.f_Width 1 100000 (fun r16=>(bif r16 then e0 1 else (g.kit_IsTime x13.f_Time (fun r17=>(bif (!r17) then e0 1 else (bif (decide (v5 > 0)) then (get_ v2 (w64 (v5 - 1)) fun x18=>(g.z96z x18 x13 (fun r19=>(bif (decide (r19 ≥ 0)) then e0 7 else z59z_L4 g n v2 v3 v4 (w64 (v5 + 1)) e0 e1)))) else z59z_L4 g n v2 v3 v4 (w64 (v5 + 1)) e0 e1)))))))))))))) else e1)
def z59z_ (g:C_z59z) (a1:List G_Busy) {R:Type} (k0:Int→Option R):Option R :=
 (bif (decide ((a1.length:Int) > 500)) then k0 2 else (z59z_L4 g g.N a1 a1 (a1.length:Int) 0 (fun e20=>k0 e20) (k0 0)))
noncomputable def ydBy [Fuel]:C_z59z:=⟨NN,@z48z _,@call_Is _,@kit_IsTime _,@z96z _⟩
noncomputable def z59z [Fuel]:yy3y:=@z59z_ ydBy
def ypzy (g:yy3y):Spec A:=fun args=>match args with | [.d (.sl 58 a1)]=>fun k=>g a1 (fun z0=>k (.d (.int .i64 z0)) [.undef]) | _=>fun _=>none
def ymiy:SSt:=mkSh 49 1 [(0,.sl 58),(8,.sl 58),(9,.int .i64),(10,.int .i64)] []
def ygky (g:C_z59z) (n:Nat):LPT A:=fun ps=>match ps with | [.d (.sl 58 p1),.d (.sl 58 p2),.d (.int .i64 p3),.d (.int .i64 p4)]=>fun K=>z59z_L4 g n p1 p2 p3 p4 (fun z0=>K .ret (mkSt 49 1 [(2,.d (.int .i64 z0))] [])) (K (.exit 0) (mkSt 49 1 [] [])) | _=>fun _=>none
noncomputable def yDly:Code:=(Tryz.f61.body).getD .skip
noncomputable def ytry (g:C_z59z):Env A:=mkE [(64,ybKy g.z48z),(71,ycVy g.call_Is),(103,yc9y g.kit_IsTime),(105,yoUy g.z96z)] [(4,[0])] [(4,⟨[0,8,9,10],[],[],[],[],[],[]⟩)] [(4,⟨[2],[],[],[],[],[],[]⟩)] [(4,yady ymiy (ygky g g.N))] [] [] [] [] []
theorem yLMy [Fuel]:yahy (ytry ydBy).C:=ct_of (P:=Tryz.prog) (T:=T) (.cons ybHy (.cons ycny (.cons yexy (.cons yCsy .nil)))) (by kernel_rfl)
noncomputable def ys6y:Code:=sub [1,1,0,1,0,0] yDly
theorem yIqy (g:C_z59z) (n:Nat):yaiy (ytry g) g.N ys6y ymiy (ygky g) n:=by intro ps; unfold ygky; split; exact .inr fun R K=>(by kernel_rfl); exact .inl fun R K=>rfl
theorem yFzy [Fuel]:yaby (ytry ydBy) NN ys6y:=yacy ymiy (ygky ydBy) (by kernel_rfl) yLMy (cuts0 (fun _=>rfl) (by kernel_rfl)) (fun ps R K=>by unfold ygky; split <;> (try unfold z59z_L4) <;> rfl) (yIqy ydBy)
theorem yO9y (g:C_z59z):Same (ypzy (@z59z_ g)) (abody (ytry g) Tryz.f61 yDly 1 [] [.asis] g.N):=by intro args; unfold ypzy; split; exact .inr fun R k=>(by kernel_rfl); exact .inl fun R k=>rfl
theorem yLPy [Fuel]:Ok 61 (ypzy (@z59z _)):=yaay std (.cons ybHy (.cons ycny (.cons yexy (.cons yCsy .nil)))) ⟨rfl,rfl,by kernel_rfl,rfl,rfl,rfl⟩ (yO9y ydBy) (cutsL (fun _=>rfl) (.cons yFzy .nil) (by kernel_rfl)) Tryz.func61 (by kernel_rfl) (by kernel_rfl)
abbrev yfOy:Type 1:=Int→{R:Type}→(Bool→Option R)→Option R
structure C_z71z where
 N:Nat
 z48z:ycmy
def z71z_ (g:C_z71z) (a1:Int) {R:Type} (k0:Bool→Option R):Option R :=
 (g.z48z a1 0 345686399999 (fun r2=>k0 (!r2)))
noncomputable def yyXy [Fuel]:C_z71z:=⟨NN,@z48z _⟩
noncomputable def z71z [Fuel]:yfOy:=@z71z_ yyXy
def ydgy (g:yfOy):Spec A:=fun args=>match args with | [.d (.int .i64 a1)]=>fun k=>g a1 (fun z0=>k (.d (.bool z0)) [.undef]) | _=>fun _=>none
noncomputable def yNky:Code:=(Tryz.f65.body).getD .skip
noncomputable def yQ8y (g:C_z71z):Env A:=mkE [(64,ybKy g.z48z)] [] [] [] [] [] [] [] [] []
theorem yO2y (g:C_z71z):Same (ydgy (@z71z_ g)) (abody (yQ8y g) Tryz.f65 yNky 0 [] [.asis] g.N):=by intro args; unfold ydgy; split; exact .inr fun R k=>(by kernel_rfl); exact .inl fun R k=>rfl
theorem yeTy [Fuel]:Ok 65 (ydgy (@z71z _)):=yaay std (.cons ybHy .nil) ⟨rfl,rfl,by kernel_rfl,rfl,rfl,rfl⟩ (yO2y yyXy) (cuts0 (fun _=>rfl) (by kernel_rfl)) Tryz.func65 (by kernel_rfl) (by kernel_rfl)
abbrev yzKy:Type 1:=List G_Segment→List G_Busy→List UInt8→Int→Int→Int→{R:Type}→(Int→Option R)→Option R
structure C_z97z where
 N:Nat
 z34z:yrWy
 z59z:yy3y
 kit_IsKey:ybhy
 kit_IsMode:ycBy
 z48z:ycmy
 z71z:yfOy
def z97z_ (g:C_z97z) (a1:List G_Segment) (a2:List G_Busy) (a3:List UInt8) (a4 a5 a6:Int) {R:Type} (k0:Int→Option R):Option R :=
 (g.z34z a1 (fun r7=>(bif (r7 != 0) then k0 r7 else (g.z59z a2 (fun r8=>(bif (r8 != 0) then k0 r8 else (g.kit_IsKey a3 (fun r9=>(bif (!r9) then k0 5 else (g.kit_IsMode a4 (fun r10=>(bif (!r10) then k0 4 else (g.z48z a5 1 100000 (fun r11=>(bif r11 then k0 1 else (g.z71z a6 (fun r12=>(bif (!r12) then k0 1 else k0 0))))))))))))))))))
noncomputable def yhny [Fuel]:C_z97z:=⟨NN,@z34z _,@z59z _,@kit_IsKey _,@kit_IsMode _,@z48z _,@z71z _⟩
noncomputable def z97z [Fuel]:yzKy:=@z97z_ yhny
def ypyy (g:yzKy):Spec A:=fun args=>match args with | [.d (.sl 52 a1),.d (.sl 58 a2),.d (.str a3),.d (.int .i64 a4),.d (.int .i64 a5),.d (.int .i64 a6)]=>fun k=>g a1 a2 a3 a4 a5 a6 (fun z0=>k (.d (.int .i64 z0)) [.undef,.undef,.undef,.undef,.undef,.undef]) | _=>fun _=>none
noncomputable def yOAy:Code:=(Tryz.f34.body).getD .skip
noncomputable def yQ7y (g:C_z97z):Env A:=mkE [(60,ykjy g.z34z),(61,ypzy g.z59z),(62,yaUy g.kit_IsKey),(63,ybTy g.kit_IsMode),(64,ybKy g.z48z),(65,ydgy g.z71z)] [] [] [] [] [] [] [] [] []
theorem yMfy (g:C_z97z):Same (ypyy (@z97z_ g)) (abody (yQ7y g) Tryz.f34 yOAy 0 [] [.asis] g.N):=by intro args; unfold ypyy; split; exact .inr fun R k=>(by kernel_rfl); exact .inl fun R k=>rfl
theorem yQpy [Fuel]:Ok 34 (ypyy (@z97z _)):=yaay std (.cons yCPy (.cons yLPy (.cons yaDy (.cons yc4y (.cons ybHy (.cons yeTy .nil)))))) ⟨rfl,rfl,by kernel_rfl,rfl,rfl,rfl⟩ (yMfy yhny) (cuts0 (fun _=>rfl) (by kernel_rfl)) Tryz.func34 (by kernel_rfl) (by kernel_rfl)
abbrev yjfy:Type 1:=G_Window→Int→{R:Type}→(Bool→Option R)→Option R
def yqKy (g:Nat) (a1:G_Window) (a2:Int) {R:Type} (k0:Bool→Option R):Option R :=
 (bif (decide (a1.f_From≤a2)) then k0 (decide (a2 < a1.f_To)) else k0 false)
noncomputable def kit_Has [Fuel]:yjfy:=@yqKy NN
def yfmy (g:yjfy):Spec A:=fun args=>match args with | [.agg [.d (.int .i64 a1),.d (.int .i64 a2)],.d (.int .i64 a3)]=>fun k=>g ⟨a1,a2⟩ a3 (fun z0=>k (.d (.bool z0)) [.undef,.undef]) | _=>fun _=>none
noncomputable def yN0y:Code:=(Tryz.f67.body).getD .skip
noncomputable def yHHy (g:Nat):Env A:=mkE [] [(2,[0])] [] [] [] [] [] [] [] []
theorem yFKy (g:Nat):Same (yfmy (@yqKy g)) (abody (yHHy g) Tryz.f67 yN0y 1 [] [.asis] g):=by intro args; unfold yfmy; split; exact .inr fun R k=>(by kernel_rfl); exact .inl fun R k=>rfl
theorem yiay [Fuel]:Ok 67 (yfmy (@kit_Has _)):=yaay std .nil ⟨rfl,rfl,by kernel_rfl,rfl,rfl,rfl⟩ (yFKy NN) (cuts0 (fun _=>rfl) (by kernel_rfl)) Tryz.func67 (by kernel_rfl) (by kernel_rfl)
abbrev yAHy:Type 1:=List Int→Int→{R:Type}→(Int→Option R)→Option R
def z73z_L2 (g:Nat):Nat→List Int→Int→Int→Int→{R:Type}→(Int→Option R)→Option R→Option R
 | 0,_,_,_,_,_,_,_=>none
 | n + 1,v3,v4,v5,v6,_,e0,e1=>(bif (decide (v6 < v5)) then (get_ v3 v6 fun x8=>(bif (v4 == x8) then e0 v6 else z73z_L2 g n v3 v4 v5 (w64 (v6 + 1)) e0 e1)) else e1)
def z73z_ (g:Nat) (a1:List Int) (a2:Int) {R:Type} (k0:Int→Option R):Option R :=
 (z73z_L2 g g a1 a2 (a1.length:Int) 0 (fun e9=>k0 e9) (k0 (-1)))
noncomputable def z73z [Fuel]:yAHy:=@z73z_ NN
def ypJy (g:yAHy):Spec A:=fun args=>match args with | [.d (.sl 3 a1),.d (.int .i64 a2)]=>fun k=>g a1 a2 (fun z0=>k (.d (.int .i64 z0)) [.undef,.undef]) | _=>fun _=>none
def yl2y:SSt:=mkSh 19 0 [(0,.sl 3),(1,.int .i64),(7,.int .i64),(8,.int .i64)] []
def yfxy (g:Nat) (n:Nat):LPT A:=fun ps=>match ps with | [.d (.sl 3 p1),.d (.int .i64 p2),.d (.int .i64 p3),.d (.int .i64 p4)]=>fun K=>z73z_L2 g n p1 p2 p3 p4 (fun z0=>K .ret (mkSt 19 0 [(4,.d (.int .i64 z0))] [])) (K (.exit 0) (mkSt 19 0 [] [])) | _=>fun _=>none
noncomputable def yyhy:Code:=(Tryz.f156.body).getD .skip
noncomputable def yrDy (g:Nat):Env A:=mkE [] [] [(2,⟨[0,1,7,8],[],[],[],[],[],[]⟩)] [(2,⟨[4],[],[],[],[],[],[]⟩)] [(2,yady yl2y (yfxy g g))] [] [] [] [] []
theorem yLDy [Fuel]:yahy (yrDy NN).C:=ct_of (P:=Tryz.prog) (T:=T) .nil (by kernel_rfl)
noncomputable def ytUy:Code:=sub [1,0,1,0,0] yyhy
theorem yHCy (g:Nat) (n:Nat):yaiy (yrDy g) g ytUy yl2y (yfxy g) n:=by intro ps; unfold yfxy; split; exact .inr fun R K=>(by kernel_rfl); exact .inl fun R K=>rfl
theorem yEZy [Fuel]:yaby (yrDy NN) NN ytUy:=yacy yl2y (yfxy NN) (by kernel_rfl) yLDy (cuts0 (fun _=>rfl) (by kernel_rfl)) (fun ps R K=>by unfold yfxy; split <;> (try unfold z73z_L2) <;> rfl) (yHCy NN)
theorem yNVy (g:Nat):Same (ypJy (@z73z_ g)) (abody (yrDy g) Tryz.f156 yyhy 0 [] [.asis] g):=by intro args; unfold ypJy; split; exact .inr fun R k=>(by kernel_rfl); exact .inl fun R k=>rfl
theorem yPUy [Fuel]:Ok 156 (ypJy (@z73z _)):=yaay std .nil ⟨rfl,rfl,by kernel_rfl,rfl,rfl,rfl⟩ (yNVy NN) (cutsL (fun _=>rfl) (.cons yEZy .nil) (by kernel_rfl)) Tryz.func156 (by kernel_rfl) (by kernel_rfl)
abbrev yAcy:Type 1:=List Int→Int→{R:Type}→(Bool→Option R)→Option R
structure C_z86z where
 N:Nat
 z73z:yAHy
def z86z_ (g:C_z86z) (a1:List Int) (a2:Int) {R:Type} (k0:Bool→Option R):Option R :=
 (g.z73z a1 a2 (fun r3=>k0 (decide (r3 ≥ 0))))
noncomputable def yAzy [Fuel]:C_z86z:=⟨NN,@z73z _⟩
noncomputable def z86z [Fuel]:yAcy:=@z86z_ yAzy
def yoOy (g:yAcy):Spec A:=fun args=>match args with | [.d (.sl 3 a1),.d (.int .i64 a2)]=>fun k=>g a1 a2 (fun z0=>k (.d (.bool z0)) [.undef,.undef]) | _=>fun _=>none
noncomputable def yJMy:Code:=(Tryz.f108.body).getD .skip
noncomputable def yRyy (g:C_z86z):Env A:=mkE [(156,ypJy g.z73z)] [] [] [] [] [] [] [] [] []
theorem yP8y (g:C_z86z):Same (yoOy (@z86z_ g)) (abody (yRyy g) Tryz.f108 yJMy 0 [] [.asis] g.N):=by intro args; unfold yoOy; split; exact .inr fun R k=>(by kernel_rfl); exact .inl fun R k=>rfl
theorem yDgy [Fuel]:Ok 108 (yoOy (@z86z _)):=yaay std (.cons yPUy .nil) ⟨rfl,rfl,by kernel_rfl,rfl,rfl,rfl⟩ (yP8y yAzy) (cuts0 (fun _=>rfl) (by kernel_rfl)) Tryz.func108 (by kernel_rfl) (by kernel_rfl)
abbrev yIxy:Type 1:=G_Row→G_Row→{R:Type}→(Int→Option R)→Option R
def z75z_ (g:Nat) (a1 a2:G_Row) {R:Type} (k0:Int→Option R):Option R :=
 k0 (w64 (a1.f_From - a2.f_From))
noncomputable def z75z [Fuel]:yIxy:=@z75z_ NN
def ygPy (g:yIxy):Spec A:=fun args=>match args with | [.agg [.d (.int .i64 a1),.d (.int .i64 a2)],.agg [.d (.int .i64 a3),.d (.int .i64 a4)]]=>fun k=>g ⟨a1,a2⟩ ⟨a3,a4⟩ (fun z0=>k (.d (.int .i64 z0)) [.undef,.undef]) | _=>fun _=>none
noncomputable def yzmy:Code:=(Tryz.f110.body).getD .skip
noncomputable def yRSy (g:Nat):Env A:=mkE [] [(2,[0]),(3,[1])] [] [] [] [] [] [] [] []
theorem yPvy (g:Nat):Same (ygPy (@z75z_ g)) (abody (yRSy g) Tryz.f110 yzmy 2 [] [.asis] g):=by intro args; unfold ygPy; split; exact .inr fun R k=>(by kernel_rfl); exact .inl fun R k=>rfl
theorem ok_z75z [Fuel]:Ok 110 (ygPy (@z75z _)):=yaay std .nil ⟨rfl,rfl,by kernel_rfl,rfl,rfl,rfl⟩ (yPvy NN) (cuts0 (fun _=>rfl) (by kernel_rfl)) Tryz.func110 (by kernel_rfl) (by kernel_rfl)
noncomputable def yLHy (g:Nat):Env A:=mkED [] [(2,[0]),(3,[1])] [] [] [] [] [] [] [] []
theorem yITy (g:Nat):Same (ygPy (@z75z_ g)) (abody (yLHy g) Tryz.f110 yzmy 2 [] [.asis] g):=by intro args; unfold ygPy; split; exact .inr fun R k=>(by kernel_rfl); exact .inl fun R k=>rfl
theorem yxsy [Fuel]:OkD 110 (ygPy (@z75z _)):=yaay stdD .nil ⟨rfl,rfl,by kernel_rfl,rfl,rfl,rfl⟩ (yITy NN) (cuts0 (fun _=>rfl) (by kernel_rfl)) Tryz.func110 (by kernel_rfl) (by kernel_rfl)
abbrev yzYy:Type 1:=List G_Row→{R:Type}→(List G_Row→Option R)→Option R
noncomputable def z64z [Fuel]:yzYy:=@ybwy G_Row (@z75z _)
def yj8y (g:yzYy):Spec A:=fun args=>match args with | [.arr 40 a1,.fn 110 []]=>fun k=>g a1 (fun z=>k (.tup []) [.arr 40 z,.fn 110 []]) | _=>fun _=>none
theorem yEjy [Fuel] (xs:List (A 40)) (R:Type) (k:IV A→List (IV A)→Option R):yj8y (@z64z _) [.arr 40 xs,.fn 110 []] k = ybwy (α:=A 40) (@z75z _) xs (fun z=>k (.tup []) [.arr 40 z,.fn 110 []]):=by kernel_rfl
theorem yC7y [Fuel] (args:List (IV A)) (R:Type) (k:IV A→List (IV A)→Option R) (h:∀ xs:List (A 40),args ≠ [.arr 40 xs,.fn 110 []]):yj8y (@z64z _) args k = none:=by unfold yj8y; split; exact absurd rfl (h _); rfl
theorem yL6y [Fuel] (x y:A 40) (R:Type) (k:Int→Option R):ykFy T (ygPy (@z75z _)) 40 x y k = @z75z _ x y R k:=by kernel_rfl
theorem yQey (x:G_Row):(ypMy x).all scal = true:=rfl
theorem yEfy [Fuel]:Ok 109 (yj8y (@z64z _)):=⟨yhdy (tyOk Tryz.prog) (e:=40) Tryz.sortf109 Tryz.isAgg40 Tryz.sizeOf40 (fun x d hd=>List.all_eq_true.1 (yQey x) d hd) yL6y yxsy.fs yxsy.en yEjy yC7y,ymay (e:=40) yEjy yC7y,yaOy (fn:=Tryz.f109) Tryz.func109 (by kernel_rfl) (by kernel_rfl)⟩
end Go.Am
