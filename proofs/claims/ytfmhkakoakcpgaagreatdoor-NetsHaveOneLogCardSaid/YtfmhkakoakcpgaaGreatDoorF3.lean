/- The functions of the program as Lean functions, each shown to be what the code computes, part 3. No condition: lemmas for the claim. -/
import Derived.Test.YtfmhkakoakcpgaaGreatDoorF0
import Derived.Test.YtfmhkakoakcpgaaGreatDoorFSh
import Derived.Test.YtfmhkakoakcpgaaGreatDoorF2
set_option linter.unusedVariables false
set_option maxRecDepth 100000
namespace Go.Am
open Go Go.Proofs
abbrev yvJy:Type 1:=List UInt8→{R:Type}→(Int→Int→Option R)→Option R
def z63z_ (g:Nat) (a1:List UInt8) {R:Type} (k0:Int→Int→Option R):Option R :=
 (bif (decide ((a1.length:Int) < 1)) then k0 65533 0 else (at_ a1 0 fun x2=>none))
noncomputable def z63z [Fuel]:yvJy:=@z63z_ NN
def yn3y (g:yvJy):Spec A:=fun args=>match args with | [.d (.str a1)]=>fun k=>g a1 (fun z0 z1=>k (.tup [.d (.int .i32 z0),.d (.int .i64 z1)]) [.undef]) | _=>fun _=>none
noncomputable def yD1y:Code:=(Tryz.f202.body).getD .skip
noncomputable def yJIy (g:Nat):Env A:=mkE [] [] [] [] [] [] [] [] [] []
theorem yGly (g:Nat):Same (yn3y (@z63z_ g)) (abody (yJIy g) Tryz.f202 yD1y 0 [] [.asis,.asis] g):=by intro args; unfold yn3y; split; exact .inr fun R k=>(by kernel_rfl); exact .inl fun R k=>rfl
theorem yGXy [Fuel]:Ok 202 (yn3y (@z63z _)):=yacy std .nil ⟨rfl,rfl,by kernel_rfl,rfl,rfl,rfl⟩ (yGly NN) (cuts0 (fun _=>rfl) (by kernel_rfl)) Tryz.func202 (by kernel_rfl) (by kernel_rfl)
abbrev yvyy:Type 1:=List UInt8→{R:Type}→(Int→Int→Option R)→Option R
structure C_z55z where
 N:Nat
 z63z:yvJy
def z55z_ (g:C_z55z) (a1:List UInt8) {R:Type} (k0:Int→Int→Option R):Option R :=
 (bif (!(a1 == [])) then (at_ a1 0 fun x2=>(bif (decide ((x2.toNat:Int) < 128)) then (at_ a1 0 fun x3=>k0 (IntKind.i32.wrap (x3.toNat:Int)) 1) else (g.z63z a1 (fun r4 r5=>k0 r4 r5)))) else (g.z63z a1 (fun r6 r7=>k0 r6 r7)))
noncomputable def yC9y [Fuel]:C_z55z:=⟨NN,@z63z _⟩
noncomputable def z55z [Fuel]:yvyy:=@z55z_ yC9y
def ynWy (g:yvyy):Spec A:=fun args=>match args with | [.d (.str a1)]=>fun k=>g a1 (fun z0 z1=>k (.tup [.d (.int .i32 z0),.d (.int .i64 z1)]) [.undef]) | _=>fun _=>none
noncomputable def yE5y:Code:=(Tryz.f172.body).getD .skip
noncomputable def yJky (g:C_z55z):Env A:=mkE [(202,yn3y g.z63z)] [] [] [] [] [] [] [] [] []
theorem yIHy (g:C_z55z):Same (ynWy (@z55z_ g)) (abody (yJky g) Tryz.f172 yE5y 0 [] [.asis,.asis] g.N):=by intro args; unfold ynWy; split; exact .inr fun R k=>(by kernel_rfl); exact .inl fun R k=>rfl
theorem yyOy [Fuel]:Ok 172 (ynWy (@z55z _)):=yacy std (.cons yGXy .nil) ⟨rfl,rfl,by kernel_rfl,rfl,rfl,rfl⟩ (yIHy yC9y) (cuts0 (fun _=>rfl) (by kernel_rfl)) Tryz.func172 (by kernel_rfl) (by kernel_rfl)
abbrev ywDy:Type 1:=List UInt8→{R:Type}→(Int→Int→Option R)→Option R
structure C_z14z where
 N:Nat
 z55z:yvyy
 z88z:yvHy
def z14z_L10 (g:C_z14z):Nat→List UInt8→Int→Int→Int→{R:Type}→(List UInt8→Int→Int→Option R)→Option R
 | 0,_,_,_,_,_,_=>none
 | n + 1,v3,v4,v5,v6,_,e0=>(bif (decide (v5 ≥ v6)) then (get_ v3 v5 fun x8=>(g.z88z (x8.toNat:Int))) else e0 v3 v4 v5)
def z14z_ (g:C_z14z) (a1:List UInt8) {R:Type} (k0:Int→Int→Option R):Option R :=
 (bif ((a1.length:Int) == 0) then k0 65533 0 else (get_ a1 (w64 ((a1.length:Int) - 1)) fun x2=>(bif (decide ((IntKind.i32.wrap (x2.toNat:Int)) < 128)) then k0 (IntKind.i32.wrap (x2.toNat:Int)) 1 else (z14z_L10 g g.N a1 (a1.length:Int) (w64 ((w64 ((a1.length:Int) - 1)) - 1)) (if 0 > (w64 ((a1.length:Int) - 4)) then 0 else (w64 ((a1.length:Int) - 4))) (fun e9 e10 e11=>(bif (decide (e11 < 0)) then (bif (decide (0≤0) && (decide (0≤e10) && decide (e10≤(e9.length:Int)))) then (g.z55z ((e9.take (e10:Int).toNat).drop (0:Int).toNat) (fun r12 r13=>(bif ((w64 (0 + r13)) != e10) then k0 65533 1 else k0 r12 r13))) else none) else (bif (decide (0≤e11) && (decide (e11≤e10) && decide (e10≤(e9.length:Int)))) then (g.z55z ((e9.take (e10:Int).toNat).drop (e11:Int).toNat) (fun r14 r15=>(bif ((w64 (e11 + r15)) != e10) then k0 65533 1 else k0 r14 r15))) else none)))))))
noncomputable def yjjy [Fuel]:C_z14z:=⟨NN,@z55z _,@z88z _⟩
noncomputable def z14z [Fuel]:ywDy:=@z14z_ yjjy
def ynTy (g:ywDy):Spec A:=fun args=>match args with | [.d (.str a1)]=>fun k=>g a1 (fun z0 z1=>k (.tup [.d (.int .i32 z0),.d (.int .i64 z1)]) [.undef]) | _=>fun _=>none
def yiUy:SSt:=mkSh 51 0 [(0,.str),(4,.int .i64),(5,.int .i64),(6,.int .i64)] []
def ydXy (g:C_z14z) (n:Nat):LPT A:=fun ps=>match ps with | [.d (.str p1),.d (.int .i64 p2),.d (.int .i64 p3),.d (.int .i64 p4)]=>fun K=>z14z_L10 g n p1 p2 p3 p4 (fun z0 z1 z2=>K (.exit 0) (mkSt 51 0 [(0,.d (.str z0)),(4,.d (.int .i64 z1)),(5,.d (.int .i64 z2))] [])) | _=>fun _=>none
noncomputable def yvvy:Code:=(Tryz.f174.body).getD .skip
noncomputable def ypTy (g:C_z14z):Env A:=mkE [(172,ynWy g.z55z),(204,ym4y g.z88z)] [] [(10,⟨[0,4,5,6],[],[],[],[],[],[]⟩)] [(10,⟨[0,4,5],[],[],[],[],[],[]⟩)] [(10,yaiy yiUy (ydXy g g.N))] [] [] [] [] []
theorem yH0y [Fuel]:yamy (ypTy yjjy).C:=ct_of (P:=Tryz.prog) (T:=T) (.cons yyOy (.cons yy8y .nil)) (by kernel_rfl)
noncomputable def yn6y:Code:=sub [1,1,1,1,1,1,1,0,1,0,0] yvvy
theorem yzZy (g:C_z14z) (n:Nat):yaoy (ypTy g) g.N yn6y yiUy (ydXy g) n:=by intro ps; unfold ydXy; split; exact .inr fun R K=>(by kernel_rfl); exact .inl fun R K=>rfl
theorem yxHy [Fuel]:yahy (ypTy yjjy) NN yn6y:=yaky yiUy (ydXy yjjy) (by kernel_rfl) yH0y (cuts0 (fun _=>rfl) (by kernel_rfl)) (fun ps R K=>by unfold ydXy; split <;> (try unfold z14z_L10) <;> rfl) (yzZy yjjy)
theorem yIvy (g:C_z14z):Same (ynTy (@z14z_ g)) (abody (ypTy g) Tryz.f174 yvvy 0 [] [.asis,.asis] g.N):=by intro args; unfold ynTy; split; exact .inr fun R k=>(by kernel_rfl); exact .inl fun R k=>rfl
theorem yzly [Fuel]:Ok 174 (ynTy (@z14z _)):=yacy std (.cons yyOy (.cons yy8y .nil)) ⟨rfl,rfl,by kernel_rfl,rfl,rfl,rfl⟩ (yIvy yjjy) (cutsL (fun _=>rfl) (.cons yxHy .nil) (by kernel_rfl)) Tryz.func174 (by kernel_rfl) (by kernel_rfl)
abbrev T_z9z:Type 1:=List UInt8→List UInt8→{R:Type}→(Int→Option R)→Option R
structure C_z9z where
 N:Nat
 z70z:yvGy
 z14z:ywDy
 strings_IndexRune:ydiy
 z68z:ytRy
def z9z_L24 (g:C_z9z):Nat→List UInt8→Int→Int→{R:Type}→(Int→Option R)→Option R→Option R
 | 0,_,_,_,_,_,_=>none
 | n + 1,v8,v9,v10,_,e0,e1=>(bif (decide (v10 > 0)) then (bif (decide (0≤v10) && decide (v10≤(v8.length:Int))) then (g.z14z (v8.take (v10:Int).toNat) (fun r13 r14=>(bif (v9 == r13) then e0 (w64 (v10 - r14)) else z9z_L24 g n v8 v9 (w64 (v10 - r14)) e0 e1))) else none) else e1)
def z9z_L31 (g:C_z9z):Nat→List UInt8→List UInt8→Int→{R:Type}→(Int→Option R)→Option R→Option R
 | 0,_,_,_,_,_,_=>none
 | n + 1,v17,v18,v19,_,e0,e1=>(bif (decide (v19 > 0)) then (bif (decide (0≤v19) && decide (v19≤(v17.length:Int))) then (g.z14z (v17.take (v19:Int).toNat) (fun r23 r24=>(g.strings_IndexRune v18 r23 (fun r25=>(bif (decide (r25 ≥ 0)) then e0 (w64 (v19 - r24)) else z9z_L31 g n v17 v18 (w64 (v19 - r24)) e0 e1))))) else none) else e1)
def z9z_ (g:C_z9z) (a1 a2:List UInt8) {R:Type} (k0:Int→Option R):Option R :=
 (bif (a2 == []) then k0 (-1) else (bif ((a1.length:Int) == 1) then (at_ a1 0 fun x3=>(bif (decide ((IntKind.i32.wrap (x3.toNat:Int)) ≥ 128)) then (g.strings_IndexRune a2 65533 (fun r4=>(bif (decide (r4 ≥ 0)) then k0 0 else k0 (-1)))) else (g.strings_IndexRune a2 (IntKind.i32.wrap (x3.toNat:Int)) (fun r5=>(bif (decide (r5 ≥ 0)) then k0 0 else k0 (-1)))))) else (g.z68z (a1.length:Int) (fun r6=>(bif r6 then (g.z70z a2) else (bif ((a2.length:Int) == 1) then (at_ a2 0 fun x7=>(bif (decide ((IntKind.i32.wrap (x7.toNat:Int)) ≥ 128)) then (z9z_L24 g g.N a1 65533 (a1.length:Int) (fun e15=>k0 e15) (k0 (-1))) else (z9z_L24 g g.N a1 (IntKind.i32.wrap (x7.toNat:Int)) (a1.length:Int) (fun e16=>k0 e16) (k0 (-1))))) else (z9z_L31 g g.N a1 a2 (a1.length:Int) (fun e26=>k0 e26) (k0 (-1)))))))))
noncomputable def I_z9z [Fuel]:C_z9z:=⟨NN,@z70z _,@z14z _,@strings_IndexRune _,@z68z _⟩
noncomputable def z9z [Fuel]:T_z9z:=@z9z_ I_z9z
def ylZy (g:T_z9z):Spec A:=fun args=>match args with | [.d (.str a1),.d (.str a2)]=>fun k=>g a1 a2 (fun z0=>k (.d (.int .i64 z0)) [.undef,.undef]) | _=>fun _=>none
def ykIy:SSt:=mkSh 96 0 [(0,.str),(9,.int .i32),(10,.int .i64)] []
def yfty (g:C_z9z) (n:Nat):LPT A:=fun ps=>match ps with | [.d (.str p1),.d (.int .i32 p2),.d (.int .i64 p3)]=>fun K=>z9z_L24 g n p1 p2 p3 (fun z0=>K .ret (mkSt 96 0 [(4,.d (.int .i64 z0))] [])) (K (.exit 2) (mkSt 96 0 [] [])) | _=>fun _=>none
def ykvy:SSt:=mkSh 96 0 [(0,.str),(1,.str),(13,.int .i64)] []
def yeSy (g:C_z9z) (n:Nat):LPT A:=fun ps=>match ps with | [.d (.str p1),.d (.str p2),.d (.int .i64 p3)]=>fun K=>z9z_L31 g n p1 p2 p3 (fun z0=>K .ret (mkSt 96 0 [(4,.d (.int .i64 z0))] [])) (K (.exit 4) (mkSt 96 0 [] [])) | _=>fun _=>none
noncomputable def ykgy:Code:=(Tryz.f199.body).getD .skip
noncomputable def E_z9z (g:C_z9z):Env A:=mkE [(148,ynDy g.z70z),(174,ynTy g.z14z),(203,yeZy g.strings_IndexRune),(224,ynby g.z68z)] [] [(24,⟨[0,9,10],[],[],[],[],[],[]⟩),(31,⟨[0,1,13],[],[],[],[],[],[]⟩)] [(24,⟨[4],[],[],[],[],[],[]⟩),(31,⟨[4],[],[],[],[],[],[]⟩)] [(24,yaiy ykIy (yfty g g.N)),(31,yaiy ykvy (yeSy g g.N))] [] [] [] [] []
theorem yCSy [Fuel]:yamy (E_z9z I_z9z).C:=ct_of (P:=Tryz.prog) (T:=T) (.cons yywy (.cons yzly (.cons yeQy (.cons yyZy .nil)))) (by kernel_rfl)
noncomputable def yAWy:Code:=sub [1,1,1,0,1,0,1,1,0,0,1,0,0] ykgy
theorem yzNy [Fuel]:yahy (E_z9z I_z9z) NN yAWy:=yeEy (by kernel_rfl)
noncomputable def ypKy:Code:=sub [1,1,1,1,0,1,0,1,1,0,1,0,0] ykgy
theorem yCsy (g:C_z9z) (n:Nat):yaoy (E_z9z g) g.N ypKy ykIy (yfty g) n:=by intro ps; unfold yfty; split; exact .inr fun R K=>(by kernel_rfl); exact .inl fun R K=>rfl
theorem yAoy [Fuel]:yahy (E_z9z I_z9z) NN ypKy:=yaky ykIy (yfty I_z9z) (by kernel_rfl) yCSy (cuts0 (fun _=>rfl) (by kernel_rfl)) (fun ps R K=>by unfold yfty; split <;> (try unfold z9z_L24) <;> rfl) (yCsy I_z9z)
noncomputable def yqPy:Code:=sub [1,1,1,1,1,0,1,0,0] ykgy
theorem yDuy (g:C_z9z) (n:Nat):yaoy (E_z9z g) g.N yqPy ykvy (yeSy g) n:=by intro ps; unfold yeSy; split; exact .inr fun R K=>(by kernel_rfl); exact .inl fun R K=>rfl
theorem yAwy [Fuel]:yahy (E_z9z I_z9z) NN yqPy:=yaky ykvy (yeSy I_z9z) (by kernel_rfl) yCSy (cuts0 (fun _=>rfl) (by kernel_rfl)) (fun ps R K=>by unfold yeSy; split <;> (try unfold z9z_L31) <;> rfl) (yDuy I_z9z)
theorem yKZy (g:C_z9z):Same (ylZy (@z9z_ g)) (abody (E_z9z g) Tryz.f199 ykgy 0 [] [.asis] g.N):=by intro args; unfold ylZy; split; exact .inr fun R k=>(by kernel_rfl); exact .inl fun R k=>rfl
theorem yCty [Fuel]:Ok 199 (ylZy (@z9z _)):=yacy std (.cons yywy (.cons yzly (.cons yeQy (.cons yyZy .nil)))) ⟨rfl,rfl,by kernel_rfl,rfl,rfl,rfl⟩ (yKZy I_z9z) (cutsL (fun _=>rfl) (.cons yzNy (.cons yAoy (.cons yAwy .nil))) (by kernel_rfl)) Tryz.func199 (by kernel_rfl) (by kernel_rfl)
abbrev yqSy:Type 1:=Int→Int→Int→{R:Type}→(Bool→Option R)→Option R
def R_in_ (g:Nat) (a1 a2 a3:Int) {R:Type} (k0:Bool→Option R):Option R :=
 (bif (decide (a2≤a1)) then k0 (decide (a1≤a3)) else k0 false)
noncomputable def R_in [Fuel]:yqSy:=@R_in_ NN
def yjRy (g:yqSy):Spec A:=fun args=>match args with | [.d (.int .i64 a1),.d (.int .i64 a2),.d (.int .i64 a3)]=>fun k=>g a1 a2 a3 (fun z0=>k (.d (.bool z0)) [.undef,.undef,.undef]) | _=>fun _=>none
noncomputable def yEpy:Code:=(Tryz.f217.body).getD .skip
noncomputable def yJEy (g:Nat):Env A:=mkE [] [] [] [] [] [] [] [] [] []
theorem yIAy (g:Nat):Same (yjRy (@R_in_ g)) (abody (yJEy g) Tryz.f217 yEpy 0 [] [.asis] g):=by intro args; unfold yjRy; split; exact .inr fun R k=>(by kernel_rfl); exact .inl fun R k=>rfl
theorem yzwy [Fuel]:Ok 217 (yjRy (@R_in _)):=yacy std .nil ⟨rfl,rfl,by kernel_rfl,rfl,rfl,rfl⟩ (yIAy NN) (cuts0 (fun _=>rfl) (by kernel_rfl)) Tryz.func217 (by kernel_rfl) (by kernel_rfl)
abbrev ydLy:Type 1:=List UInt8→List UInt8→{R:Type}→(List UInt8→Option R)→Option R
def strings_Trim [Fuel]:ydLy:=@yp0y
def yfBy (g:ydLy):Spec A:=yhXy g
theorem yiEy [Fuel]:Ok 106 (yfBy (@strings_Trim _)):=⟨yrry (yAny rfl (fun s cs w h1 h2 h3=>Any.strings_Trim_laid Tryz.lays160 (by kernel_rfl) s cs w h1 h2 h3)),ywIy,yaSy (fn:=Tryz.f106) Tryz.func106 (by kernel_rfl) (by kernel_rfl)⟩
abbrev ybYy:Type 1:=List UInt8→List UInt8→{R:Type}→(Bool→Option R)→Option R
def strings_ContainsAny [Fuel]:ybYy:=@yqBy
def ycBy (g:ybYy):Spec A:=yhYy g
theorem ydVy [Fuel]:Ok 218 (ycBy (@strings_ContainsAny _)):=⟨yrXy (yAgy rfl (fun s cs w h1 h2 h3 h4=>Any.strings_ContainsAny_laid Tryz.lays150 (by kernel_rfl) s cs w h1 h2 h3 h4)),yvZy,yaSy (fn:=Tryz.f218) Tryz.func218 (by kernel_rfl) (by kernel_rfl)⟩
abbrev yiGy:Type 1:=List UInt8→Int→Int→{R:Type}→(Bool→Option R)→Option R
structure C_R_plain where
 N:Nat
 strings_Trim:ydLy
 R_in:yqSy
 strings_ContainsAny:ybYy
def yv4y (g:C_R_plain) (a1:List UInt8) (a2 a3:Int) {R:Type} (k0:Bool→Option R):Option R :=
 (g.R_in (a1.length:Int) a2 a3 (fun r4=>(bif r4 then (g.strings_Trim a1 [97,98,99,100,101,102,103,104,105,106,107,108,109,110,111,112,113,114,115,116,117,118,119,120,121,122,48,49,50,51,52,53,54,55,56,57] (fun r5=>(bif (r5 == []) then (g.strings_ContainsAny a1 [97,98,99,100,101,102,103,104,105,106,107,108,109,110,111,112,113,114,115,116,117,118,119,120,121,122] (fun r6=>k0 r6)) else k0 false))) else k0 false)))
noncomputable def ysMy [Fuel]:C_R_plain:=⟨NN,@strings_Trim _,@R_in _,@strings_ContainsAny _⟩
noncomputable def R_plain [Fuel]:yiGy:=@yv4y ysMy
def yfQy (g:yiGy):Spec A:=fun args=>match args with | [.d (.str a1),.d (.int .i64 a2),.d (.int .i64 a3)]=>fun k=>g a1 a2 a3 (fun z0=>k (.d (.bool z0)) [.undef,.undef,.undef]) | _=>fun _=>none
noncomputable def yE6y:Code:=(Tryz.f216.body).getD .skip
noncomputable def yCTy (g:C_R_plain):Env A:=mkE [(106,yfBy g.strings_Trim),(217,yjRy g.R_in),(218,ycBy g.strings_ContainsAny)] [] [] [] [] [] [] [] [] []
theorem yz2y (g:C_R_plain):Same (yfQy (@yv4y g)) (abody (yCTy g) Tryz.f216 yE6y 0 [] [.asis] g.N):=by intro args; unfold yfQy; split; exact .inr fun R k=>(by kernel_rfl); exact .inl fun R k=>rfl
theorem ypYy [Fuel]:Ok 216 (yfQy (@R_plain _)):=yacy std (.cons yiEy (.cons yzwy (.cons ydVy .nil))) ⟨rfl,rfl,by kernel_rfl,rfl,rfl,rfl⟩ (yz2y ysMy) (cuts0 (fun _=>rfl) (by kernel_rfl)) Tryz.func216 (by kernel_rfl) (by kernel_rfl)
abbrev yhay:Type 1:=List UInt8→{R:Type}→(Int→Option R)→Option R
structure C_R_baseAt where
 N:Nat
 z9z:T_z9z
 R_plain:yiGy
 R_in:yqSy
 strings_ContainsAny:ybYy
def ysBy (g:C_R_baseAt) (a1:List UInt8) {R:Type} (k0:Int→Option R):Option R :=
 (g.z9z a1 [48,49,50,51,52,53,54,55,56,57] (fun r2=>(g.R_plain a1 3 10 (fun r3=>(bif (!r3) then k0 (-1) else (g.R_in r2 1 3 (fun r4=>(bif (!r4) then k0 (-1) else (g.R_in (w64 ((w64 ((a1.length:Int) - 1)) - r2)) 1 4 (fun r5=>(bif (!r5) then k0 (-1) else (bif (decide (0≤r2) && decide (r2≤(a1.length:Int))) then (g.strings_ContainsAny (a1.take (r2:Int).toNat) [97,98,99,100,101,102,103,104,105,106,107,108,109,110,111,112,113,114,115,116,117,118,119,120,121,122] (fun r6=>(bif (!r6) then k0 (-1) else k0 r2))) else none))))))))))))
noncomputable def yq0y [Fuel]:C_R_baseAt:=⟨NN,@z9z _,@R_plain _,@R_in _,@strings_ContainsAny _⟩
noncomputable def R_baseAt [Fuel]:yhay:=@ysBy yq0y
def yeby (g:yhay):Spec A:=fun args=>match args with | [.d (.str a1)]=>fun k=>g a1 (fun z0=>k (.d (.int .i64 z0)) [.undef]) | _=>fun _=>none
noncomputable def yDZy:Code:=(Tryz.f186.body).getD .skip
noncomputable def yBcy (g:C_R_baseAt):Env A:=mkE [(199,ylZy g.z9z),(216,yfQy g.R_plain),(217,yjRy g.R_in),(218,ycBy g.strings_ContainsAny)] [] [] [] [] [] [] [] [] []
theorem yxty (g:C_R_baseAt):Same (yeby (@ysBy g)) (abody (yBcy g) Tryz.f186 yDZy 0 [] [.asis] g.N):=by intro args; unfold yeby; split; exact .inr fun R k=>(by kernel_rfl); exact .inl fun R k=>rfl
theorem yocy [Fuel]:Ok 186 (yeby (@R_baseAt _)):=yacy std (.cons yCty (.cons ypYy (.cons yzwy (.cons ydVy .nil)))) ⟨rfl,rfl,by kernel_rfl,rfl,rfl,rfl⟩ (yxty yq0y) (cuts0 (fun _=>rfl) (by kernel_rfl)) Tryz.func186 (by kernel_rfl) (by kernel_rfl)
abbrev yvpy:Type 1:=List UInt8→{R:Type}→(G_Parts→Option R)→Option R
structure C_z86z where
 N:Nat
 R_baseAt:yhay
def z86z_ (g:C_z86z) (a1:List UInt8) {R:Type} (k0:G_Parts→Option R):Option R :=
 (g.R_baseAt a1 (fun r2=>(bif (decide (0≤(w64 (r2 + 1))) && decide ((w64 (r2 + 1))≤(a1.length:Int))) then (bif (decide (0≤(w64 (r2 + 1))) && decide ((w64 (r2 + 1))≤(a1.length:Int))) then k0 (⟨a1,(a1.take ((w64 (r2 + 1)):Int).toNat),(a1.drop ((w64 (r2 + 1)):Int).toNat),0,[]⟩:G_Parts) else none) else none)))
noncomputable def yCxy [Fuel]:C_z86z:=⟨NN,@R_baseAt _⟩
noncomputable def z86z [Fuel]:yvpy:=@z86z_ yCxy
def ym1y (g:yvpy):Spec A:=fun args=>match args with | [.d (.str a1)]=>fun k=>g a1 (fun z0=>k (.agg [.d (.str z0.f_Base),.d (.str z0.f_Prefix),.d (.str z0.f_Suffix),.d (.int .i64 z0.f_Kind),.d (.str z0.f_Added)]) [.undef]) | _=>fun _=>none
noncomputable def yEjy:Code:=(Tryz.f185.body).getD .skip
noncomputable def yJty (g:C_z86z):Env A:=mkE [(186,yeby g.R_baseAt)] [(2,[0])] [] [] [] [] [] [] [] []
theorem yFNy (g:C_z86z):Same (ym1y (@z86z_ g)) (abody (yJty g) Tryz.f185 yEjy 1 [] [.asis] g.N):=by intro args; unfold ym1y; split; exact .inr fun R k=>(by kernel_rfl); exact .inl fun R k=>rfl
theorem yFPy [Fuel]:Ok 185 (ym1y (@z86z _)):=yacy std (.cons yocy .nil) ⟨rfl,rfl,by kernel_rfl,rfl,rfl,rfl⟩ (yFNy yCxy) (cuts0 (fun _=>rfl) (by kernel_rfl)) Tryz.func185 (by kernel_rfl) (by kernel_rfl)
abbrev ymyy:Type 1:=List UInt8→{R:Type}→(Bool→Option R)→Option R
structure C_R_begin where
 N:Nat
 R_plain:yiGy
def ywBy (g:C_R_begin) (a1:List UInt8) {R:Type} (k0:Bool→Option R):Option R :=
 (g.R_plain a1 1 4 (fun r2=>k0 r2))
noncomputable def ysxy [Fuel]:C_R_begin:=⟨NN,@R_plain _⟩
noncomputable def R_begin [Fuel]:ymyy:=@ywBy ysxy
def yhhy (g:ymyy):Spec A:=fun args=>match args with | [.d (.str a1)]=>fun k=>g a1 (fun z0=>k (.d (.bool z0)) [.undef]) | _=>fun _=>none
noncomputable def yEHy:Code:=(Tryz.f187.body).getD .skip
noncomputable def yDsy (g:C_R_begin):Env A:=mkE [(216,yfQy g.R_plain)] [] [] [] [] [] [] [] [] []
theorem yAdy (g:C_R_begin):Same (yhhy (@ywBy g)) (abody (yDsy g) Tryz.f187 yEHy 0 [] [.asis] g.N):=by intro args; unfold yhhy; split; exact .inr fun R k=>(by kernel_rfl); exact .inl fun R k=>rfl
theorem yAcy [Fuel]:Ok 187 (yhhy (@R_begin _)):=yacy std (.cons ypYy .nil) ⟨rfl,rfl,by kernel_rfl,rfl,rfl,rfl⟩ (yAdy ysxy) (cuts0 (fun _=>rfl) (by kernel_rfl)) Tryz.func187 (by kernel_rfl) (by kernel_rfl)
abbrev yfay:Type 1:=List UInt8→List UInt8→{R:Type}→(Int→Option R)→Option R
structure C_strings_Index where
 N:Nat
 stringslite_Index:ycjy
def yj0y (g:C_strings_Index) (a1 a2:List UInt8) {R:Type} (k0:Int→Option R):Option R :=
 (g.stringslite_Index a1 a2 (fun r3=>k0 r3))
noncomputable def yiIy [Fuel]:C_strings_Index:=⟨NN,@stringslite_Index _⟩
noncomputable def strings_Index [Fuel]:yfay:=@yj0y yiIy
def ycYy (g:yfay):Spec A:=fun args=>match args with | [.d (.str a1),.d (.str a2)]=>fun k=>g a1 a2 (fun z0=>k (.d (.int .i64 z0)) [.undef,.undef]) | _=>fun _=>none
noncomputable def yEry:Code:=(Tryz.f219.body).getD .skip
noncomputable def yqCy (g:C_strings_Index):Env A:=mkE [(200,ycWy g.stringslite_Index)] [] [] [] [] [] [] [] [] []
theorem ypby (g:C_strings_Index):Same (ycYy (@yj0y g)) (abody (yqCy g) Tryz.f219 yEry 0 [] [.asis] g.N):=by intro args; unfold ycYy; split; exact .inr fun R k=>(by kernel_rfl); exact .inl fun R k=>rfl
theorem yoLy [Fuel]:Ok 219 (ycYy (@strings_Index _)):=yacy std (.cons yeXy .nil) ⟨rfl,rfl,by kernel_rfl,rfl,rfl,rfl⟩ (ypby yiIy) (cuts0 (fun _=>rfl) (by kernel_rfl)) Tryz.func219 (by kernel_rfl) (by kernel_rfl)
abbrev ydty:Type 1:=List UInt8→List UInt8→{R:Type}→(Bool→Option R)→Option R
structure C_strings_Contains where
 N:Nat
 strings_Index:yfay
def yg5y (g:C_strings_Contains) (a1 a2:List UInt8) {R:Type} (k0:Bool→Option R):Option R :=
 (g.strings_Index a1 a2 (fun r3=>k0 (decide (r3 ≥ 0))))
noncomputable def ygLy [Fuel]:C_strings_Contains:=⟨NN,@strings_Index _⟩
noncomputable def strings_Contains [Fuel]:ydty:=@yg5y ygLy
def ycly (g:ydty):Spec A:=fun args=>match args with | [.d (.str a1),.d (.str a2)]=>fun k=>g a1 a2 (fun z0=>k (.d (.bool z0)) [.undef,.undef]) | _=>fun _=>none
noncomputable def yDKy:Code:=(Tryz.f188.body).getD .skip
noncomputable def yl6y (g:C_strings_Contains):Env A:=mkE [(219,ycYy g.strings_Index)] [] [] [] [] [] [] [] [] []
theorem ylDy (g:C_strings_Contains):Same (ycly (@yg5y g)) (abody (yl6y g) Tryz.f188 yDKy 0 [] [.asis] g.N):=by intro args; unfold ycly; split; exact .inr fun R k=>(by kernel_rfl); exact .inl fun R k=>rfl
theorem ylCy [Fuel]:Ok 188 (ycly (@strings_Contains _)):=yacy std (.cons yoLy .nil) ⟨rfl,rfl,by kernel_rfl,rfl,rfl,rfl⟩ (ylDy ygLy) (cuts0 (fun _=>rfl) (by kernel_rfl)) Tryz.func188 (by kernel_rfl) (by kernel_rfl)
abbrev yiLy:Type 1:=List UInt8→{R:Type}→(G_Parts→Bool→Option R)→Option R
structure C_R_PartsOf where
 N:Nat
 z84z:ypky
 z86z:yvpy
 R_baseAt:yhay
 R_begin:ymyy
 strings_Contains:ydty
def yqZy (g:C_R_PartsOf) (a1:List UInt8) {R:Type} (k0:G_Parts→Bool→Option R):Option R :=
 (g.z84z a1 [47] (fun r2 r3 r4=>(bif (decide ((a1.length:Int) > 14)) then k0 (⟨[],[],[],0,[]⟩:G_Parts) false else (bif (!r4) then (g.R_baseAt r2 (fun r5=>(bif (decide (r5 < 0)) then k0 (⟨[],[],[],0,[]⟩:G_Parts) false else (g.z86z r2 (fun r6=>k0 r6 true))))) else (g.R_baseAt r3 (fun r7=>(bif (decide (r7 ≥ 0)) then (g.R_begin r2 (fun r8=>(bif r8 then (g.z86z r3 (fun r9=>k0 (⟨r9.f_Base,r9.f_Prefix,r9.f_Suffix,1,r2⟩:G_Parts) true)) else (g.R_baseAt r2 (fun r10=>(bif (decide (r10 < 0)) then k0 (⟨[],[],[],0,[]⟩:G_Parts) false else (g.z86z r2 (fun r11=>(bif (r3 == [112]) then k0 (⟨r11.f_Base,r11.f_Prefix,r11.f_Suffix,3,r11.f_Added⟩:G_Parts) true else (bif (r3 == [109]) then k0 (⟨r11.f_Base,r11.f_Prefix,r11.f_Suffix,4,r11.f_Added⟩:G_Parts) true else (bif (r3 == [109,109]) then k0 (⟨r11.f_Base,r11.f_Prefix,r11.f_Suffix,5,r11.f_Added⟩:G_Parts) true else (bif (r3 == [97,109]) then k0 (⟨r11.f_Base,r11.f_Prefix,r11.f_Suffix,6,r11.f_Added⟩:G_Parts) true else (bif ((r3.length:Int) == 1) then (g.strings_Contains [48,49,50,51,52,53,54,55,56,57] r3 (fun r12=>(bif r12 then k0 (⟨r11.f_Base,r11.f_Prefix,r11.f_Suffix,2,r3⟩:G_Parts) true else (g.R_begin r3 (fun r13=>(bif r13 then k0 (⟨r11.f_Base,r11.f_Prefix,r11.f_Suffix,1,r3⟩:G_Parts) true else k0 (⟨[],[],[],0,[]⟩:G_Parts) false)))))) else (g.R_begin r3 (fun r14=>(bif r14 then k0 (⟨r11.f_Base,r11.f_Prefix,r11.f_Suffix,1,r3⟩:G_Parts) true else k0 (⟨[],[],[],0,[]⟩:G_Parts) false)))))))))))))))) else (g.R_baseAt r2 (fun r15=>(bif (decide (r15 < 0)) then k0 (⟨[],[],[],0,[]⟩:G_Parts) false else (g.z86z r2 (fun r16=>(bif (r3 == [112]) then k0 (⟨r16.f_Base,r16.f_Prefix,r16.f_Suffix,3,r16.f_Added⟩:G_Parts) true else (bif (r3 == [109]) then k0 (⟨r16.f_Base,r16.f_Prefix,r16.f_Suffix,4,r16.f_Added⟩:G_Parts) true else (bif (r3 == [109,109]) then k0 (⟨r16.f_Base,r16.f_Prefix,r16.f_Suffix,5,r16.f_Added⟩:G_Parts) true else (bif (r3 == [97,109]) then k0 (⟨r16.f_Base,r16.f_Prefix,r16.f_Suffix,6,r16.f_Added⟩:G_Parts) true else (bif ((r3.length:Int) == 1) then (g.strings_Contains [48,49,50,51,52,53,54,55,56,57] r3 (fun r17=>(bif r17 then k0 (⟨r16.f_Base,r16.f_Prefix,r16.f_Suffix,2,r3⟩:G_Parts) true else (g.R_begin r3 (fun r18=>(bif r18 then k0 (⟨r16.f_Base,r16.f_Prefix,r16.f_Suffix,1,r3⟩:G_Parts) true else k0 (⟨[],[],[],0,[]⟩:G_Parts) false)))))) else (g.R_begin r3 (fun r19=>(bif r19 then k0 (⟨r16.f_Base,r16.f_Prefix,r16.f_Suffix,1,r3⟩:G_Parts) true else k0 (⟨[],[],[],0,[]⟩:G_Parts) false))))))))))))))))))))
noncomputable def yony [Fuel]:C_R_PartsOf:=⟨NN,@z84z _,@z86z _,@R_baseAt _,@R_begin _,@strings_Contains _⟩
noncomputable def R_PartsOf [Fuel]:yiLy:=@yqZy yony
def yfwy (g:yiLy):Spec A:=fun args=>match args with | [.d (.str a1)]=>fun k=>g a1 (fun z0 z1=>k (.tup [.agg [.d (.str z0.f_Base),.d (.str z0.f_Prefix),.d (.str z0.f_Suffix),.d (.int .i64 z0.f_Kind),.d (.str z0.f_Added)],.d (.bool z1)]) [.undef]) | _=>fun _=>none
noncomputable def yEWy:Code:=(Tryz.f159.body).getD .skip
noncomputable def yxOy (g:C_R_PartsOf):Env A:=mkE [(142,yjLy g.z84z),(185,ym1y g.z86z),(186,yeby g.R_baseAt),(187,yhhy g.R_begin),(188,ycly g.strings_Contains)] [(2,[0]),(8,[1]),(9,[2])] [] [] [] [] [] [] [] []
theorem ywvy (g:C_R_PartsOf):Same (yfwy (@yqZy g)) (abody (yxOy g) Tryz.f159 yEWy 3 [] [.asis,.asis] g.N):=by intro args; unfold yfwy; split; exact .inr fun R k=>(by kernel_rfl); exact .inl fun R k=>rfl
theorem yvgy [Fuel]:Ok 159 (yfwy (@R_PartsOf _)):=yacy std (.cons yyry (.cons yFPy (.cons yocy (.cons yAcy (.cons ylCy .nil))))) ⟨rfl,rfl,by kernel_rfl,rfl,rfl,rfl⟩ (ywvy yony) (cuts0 (fun _=>rfl) (by kernel_rfl)) Tryz.func159 (by kernel_rfl) (by kernel_rfl)
abbrev yoMy:Type 1:=List UInt8→{R:Type}→(Bool→Option R)→Option R
structure C_Q_Call where
 N:Nat
 R_PartsOf:yiLy
def yyny (g:C_Q_Call) (a1:List UInt8) {R:Type} (k0:Bool→Option R):Option R :=
 (g.R_PartsOf a1 (fun r2 r3=>k0 r3))
noncomputable def yvay [Fuel]:C_Q_Call:=⟨NN,@R_PartsOf _⟩
noncomputable def Q_Call [Fuel]:yoMy:=@yyny yvay
def yipy (g:yoMy):Spec A:=fun args=>match args with | [.d (.str a1)]=>fun k=>g a1 (fun z0=>k (.d (.bool z0)) [.undef]) | _=>fun _=>none
noncomputable def yFgy:Code:=(Tryz.f122.body).getD .skip
noncomputable def yEdy (g:C_Q_Call):Env A:=mkE [(159,yfwy g.R_PartsOf)] [(3,[0])] [] [] [] [] [] [] [] []
theorem yCDy (g:C_Q_Call):Same (yipy (@yyny g)) (abody (yEdy g) Tryz.f122 yFgy 1 [] [.asis] g.N):=by intro args; unfold yipy; split; exact .inr fun R k=>(by kernel_rfl); exact .inl fun R k=>rfl
theorem yshy [Fuel]:Ok 122 (yipy (@Q_Call _)):=yacy std (.cons yvgy .nil) ⟨rfl,rfl,by kernel_rfl,rfl,rfl,rfl⟩ (yCDy yvay) (cuts0 (fun _=>rfl) (by kernel_rfl)) Tryz.func122 (by kernel_rfl) (by kernel_rfl)
abbrev ywjy:Type 1:=G_Contact→{R:Type}→(Int→Option R)→Option R
structure C_z74z where
 N:Nat
 Q_Key:ynjy
 Q_in:yjfy
 Q_Moment:yhly
 Q_Call:yoMy
def z74z_ (g:C_z74z) (a1:G_Contact) {R:Type} (k0:Int→Option R):Option R :=
 (g.Q_Moment a1.f_At (fun r2=>(bif (!r2) then k0 1 else (g.Q_in a1.f_Mode 1 3 (fun r3=>(bif (!r3) then k0 4 else (g.Q_Key a1.f_Band (fun r4=>(bif (!r4) then k0 5 else (g.Q_Call a1.f_Call (fun r5=>(bif (!r5) then k0 3 else (g.Q_in a1.f_Sent 0 99999 (fun r6=>(bif (!r6) then k0 1 else (g.Q_in a1.f_Heard 0 99999 (fun r7=>(bif (!r7) then k0 1 else (bif (!(a1.f_Gave == [])) then (g.Q_Key a1.f_Gave (fun r8=>(bif (!r8) then k0 5 else (bif (!(a1.f_Got == [])) then (g.Q_Key a1.f_Got (fun r9=>(bif (!r9) then k0 5 else k0 0))) else k0 0)))) else (bif (!(a1.f_Got == [])) then (g.Q_Key a1.f_Got (fun r10=>(bif (!r10) then k0 5 else k0 0))) else k0 0))))))))))))))))))))
noncomputable def ywSy [Fuel]:C_z74z:=⟨NN,@Q_Key _,@Q_in _,@Q_Moment _,@Q_Call _⟩
noncomputable def z74z [Fuel]:ywjy:=@z74z_ ywSy
def ym0y (g:ywjy):Spec A:=fun args=>match args with | [.agg [.d (.int .i64 a1),.d (.int .i64 a2),.d (.str a3),.d (.str a4),.d (.int .i64 a5),.d (.int .i64 a6),.d (.str a7),.d (.str a8)]]=>fun k=>g ⟨a1,a2,a3,a4,a5,a6,a7,a8⟩ (fun z0=>k (.d (.int .i64 z0)) [.undef]) | _=>fun _=>none
noncomputable def yIDy:Code:=(Tryz.f85.body).getD .skip
noncomputable def yKmy (g:C_z74z):Env A:=mkE [(82,yiiy g.Q_Key),(83,ygfy g.Q_in),(84,yd6y g.Q_Moment),(122,yipy g.Q_Call)] [(1,[0])] [] [] [] [] [] [] [] []
theorem yGRy (g:C_z74z):Same (ym0y (@z74z_ g)) (abody (yKmy g) Tryz.f85 yIDy 1 [] [.asis] g.N):=by intro args; unfold ym0y; split; exact .inr fun R k=>(by kernel_rfl); exact .inl fun R k=>rfl
theorem yIOy [Fuel]:Ok 85 (ym0y (@z74z _)):=yacy std (.cons yk0y (.cons ynxy (.cons yozy (.cons yshy .nil)))) ⟨rfl,rfl,by kernel_rfl,rfl,rfl,rfl⟩ (yGRy ywSy) (cuts0 (fun _=>rfl) (by kernel_rfl)) Tryz.func85 (by kernel_rfl) (by kernel_rfl)
abbrev ywQy:Type 1:=G_Deed→{R:Type}→(Int→Option R)→Option R
structure C_z73z where
 N:Nat
 Q_Key:ynjy
 Q_in:yjfy
 Q_Moment:yhly
 z74z:ywjy
def z73z_ (g:C_z73z) (a1:G_Deed) {R:Type} (k0:Int→Option R):Option R :=
 (g.Q_Key a1.f_Site (fun r2=>(bif (!r2) then k0 5 else (g.Q_in a1.f_No 1 1000000 (fun r3=>(bif (!r3) then k0 1 else (g.Q_Moment a1.f_At (fun r4=>(bif (!r4) then k0 1 else (g.Q_in a1.f_Kind 1 5 (fun r5=>(bif (!r5) then k0 4 else (bif (a1.f_Kind == 1) then (g.z74z a1.f_Contact (fun r6=>(bif (r6 != 0) then k0 r6 else (bif (decide (a1.f_Contact.f_At > a1.f_At)) then k0 1 else (bif (!(ya0y a1 (⟨a1.f_Site,a1.f_No,a1.f_At,a1.f_Kind,a1.f_Contact,[],[],0⟩:G_Deed))) then k0 3 else k0 0))))) else (bif (a1.f_Kind == 2) then (g.Q_Key a1.f_Band (fun r7=>(bif (!r7) then k0 5 else (bif (!(ya0y a1 (⟨a1.f_Site,a1.f_No,a1.f_At,a1.f_Kind,(⟨0,0,[],[],0,0,[],[]⟩:G_Contact),a1.f_Band,[],0⟩:G_Deed))) then k0 3 else k0 0)))) else (bif (a1.f_Kind == 5) then (g.Q_Key a1.f_Of (fun r8=>(bif (!r8) then k0 5 else (g.Q_in a1.f_Other 1 1000000 (fun r9=>(bif (!r9) then k0 1 else (bif (!(ya0y a1 (⟨a1.f_Site,a1.f_No,a1.f_At,a1.f_Kind,(⟨0,0,[],[],0,0,[],[]⟩:G_Contact),[],a1.f_Of,a1.f_Other⟩:G_Deed))) then k0 3 else k0 0))))))) else (g.Q_in a1.f_Contact.f_Sent 1 99999 (fun r10=>(bif (!r10) then k0 1 else (bif (!(ya0y a1 (⟨a1.f_Site,a1.f_No,a1.f_At,a1.f_Kind,(⟨0,0,[],[],a1.f_Contact.f_Sent,0,[],[]⟩:G_Contact),[],[],0⟩:G_Deed))) then k0 3 else k0 0)))))))))))))))))))
noncomputable def ypNy [Fuel]:C_z73z:=⟨NN,@Q_Key _,@Q_in _,@Q_Moment _,@z74z _⟩
noncomputable def z73z [Fuel]:ywQy:=@z73z_ ypNy
def ynQy (g:ywQy):Spec A:=fun args=>match args with | [.agg [.d (.str a1),.d (.int .i64 a2),.d (.int .i64 a3),.d (.int .i64 a4),.d (.int .i64 a5),.d (.int .i64 a6),.d (.str a7),.d (.str a8),.d (.int .i64 a9),.d (.int .i64 a10),.d (.str a11),.d (.str a12),.d (.str a13),.d (.str a14),.d (.int .i64 a15)]]=>fun k=>g ⟨a1,a2,a3,a4,⟨a5,a6,a7,a8,a9,a10,a11,a12⟩,a13,a14,a15⟩ (fun z0=>k (.d (.int .i64 z0)) [.undef]) | _=>fun _=>none
noncomputable def yFVy:Code:=(Tryz.f47.body).getD .skip
noncomputable def yJDy (g:C_z73z):Env A:=mkE [(82,yiiy g.Q_Key),(83,ygfy g.Q_in),(84,yd6y g.Q_Moment),(85,ym0y g.z74z)] [(1,[0]),(3,[1])] [] [] [] [] [] [] [] []
theorem yG5y (g:C_z73z):Same (ynQy (@z73z_ g)) (abody (yJDy g) Tryz.f47 yFVy 2 [] [.asis] g.N):=by intro args; unfold ynQy; split; exact .inr fun R k=>(by kernel_rfl); exact .inl fun R k=>rfl
theorem yzFy [Fuel]:Ok 47 (ynQy (@z73z _)):=yacy std (.cons yk0y (.cons ynxy (.cons yozy (.cons yIOy .nil)))) ⟨rfl,rfl,by kernel_rfl,rfl,rfl,rfl⟩ (yG5y ypNy) (cuts0 (fun _=>rfl) (by kernel_rfl)) Tryz.func47 (by kernel_rfl) (by kernel_rfl)
abbrev ykey:Type 1:=G_Deed→G_Deed→{R:Type}→(Bool→Option R)→Option R
def ysOy (g:Nat) (a1 a2:G_Deed) {R:Type} (k0:Bool→Option R):Option R :=
 (bif (a1.f_Site == a2.f_Site) then k0 (a1.f_No == a2.f_No) else k0 false)
noncomputable def Q_sameNo [Fuel]:ykey:=@ysOy NN
def ygvy (g:ykey):Spec A:=fun args=>match args with | [.agg [.d (.str a1),.d (.int .i64 a2),.d (.int .i64 a3),.d (.int .i64 a4),.d (.int .i64 a5),.d (.int .i64 a6),.d (.str a7),.d (.str a8),.d (.int .i64 a9),.d (.int .i64 a10),.d (.str a11),.d (.str a12),.d (.str a13),.d (.str a14),.d (.int .i64 a15)],.agg [.d (.str a16),.d (.int .i64 a17),.d (.int .i64 a18),.d (.int .i64 a19),.d (.int .i64 a20),.d (.int .i64 a21),.d (.str a22),.d (.str a23),.d (.int .i64 a24),.d (.int .i64 a25),.d (.str a26),.d (.str a27),.d (.str a28),.d (.str a29),.d (.int .i64 a30)]]=>fun k=>g ⟨a1,a2,a3,a4,⟨a5,a6,a7,a8,a9,a10,a11,a12⟩,a13,a14,a15⟩ ⟨a16,a17,a18,a19,⟨a20,a21,a22,a23,a24,a25,a26,a27⟩,a28,a29,a30⟩ (fun z0=>k (.d (.bool z0)) [.undef,.undef]) | _=>fun _=>none
noncomputable def yFmy:Code:=(Tryz.f50.body).getD .skip
noncomputable def yAly (g:Nat):Env A:=mkE [] [(2,[0]),(3,[1])] [] [] [] [] [] [] [] []
theorem yxAy (g:Nat):Same (ygvy (@ysOy g)) (abody (yAly g) Tryz.f50 yFmy 2 [] [.asis] g):=by intro args; unfold ygvy; split; exact .inr fun R k=>(by kernel_rfl); exact .inl fun R k=>rfl
theorem yxjy [Fuel]:Ok 50 (ygvy (@Q_sameNo _)):=yacy std .nil ⟨rfl,rfl,by kernel_rfl,rfl,rfl,rfl⟩ (yxAy NN) (cuts0 (fun _=>rfl) (by kernel_rfl)) Tryz.func50 (by kernel_rfl) (by kernel_rfl)
end Go.Am
