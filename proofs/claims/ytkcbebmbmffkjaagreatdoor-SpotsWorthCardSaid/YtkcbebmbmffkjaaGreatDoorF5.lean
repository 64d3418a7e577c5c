/- The functions of the program as Lean functions, each shown to be what the code computes, part 5. No condition: lemmas for the claim. -/
import Derived.Test.YtkcbebmbmffkjaaGreatDoorF0
import Derived.Test.YtkcbebmbmffkjaaGreatDoorFSh
import Derived.Test.YtkcbebmbmffkjaaGreatDoorF1
import Derived.Test.YtkcbebmbmffkjaaGreatDoorF2
import Derived.Test.YtkcbebmbmffkjaaGreatDoorF4
set_option linter.unusedVariables false
set_option maxRecDepth 100000
namespace Go.Am
open Go Go.Proofs
abbrev ysqy:Type 1:=List UInt8→List UInt8→{R:Type}→(Int→Option R)→Option R
structure C_z35z where
 N:Nat
 z96z:yzVy
 strings_IndexRune:ydty
 z93z:yxCy
 z40z:yyLy
def z35z_L24 (g:C_z35z):Nat→List UInt8→Int→Int→{R:Type}→(Int→Option R)→Option R→Option R
 | 0,_,_,_,_,_,_=>none
 | n + 1,v8,v9,v10,_,e0,e1=>(bif (decide (v10 > 0)) then (bif (decide (0≤v10) && decide (v10≤(v8.length:Int))) then (g.z40z (v8.take (v10:Int).toNat) (fun r13 r14=>(bif (v9 == r13) then e0 (w64 (v10 - r14)) else z35z_L24 g n v8 v9 (w64 (v10 - r14)) e0 e1))) else none) else e1)
def z35z_L31 (g:C_z35z):Nat→List UInt8→List UInt8→Int→{R:Type}→(Int→Option R)→Option R→Option R
 | 0,_,_,_,_,_,_=>none
 | n + 1,v17,v18,v19,_,e0,e1=>(bif (decide (v19 > 0)) then (bif (decide (0≤v19) && decide (v19≤(v17.length:Int))) then (g.z40z (v17.take (v19:Int).toNat) (fun r23 r24=>(g.strings_IndexRune v18 r23 (fun r25=>(bif (decide (r25 ≥ 0)) then e0 (w64 (v19 - r24)) else z35z_L31 g n v17 v18 (w64 (v19 - r24)) e0 e1))))) else none) else e1)
def z35z_ (g:C_z35z) (a1 a2:List UInt8) {R:Type} (k0:Int→Option R):Option R :=
 (bif (a2 == []) then k0 (-1) else (bif ((a1.length:Int) == 1) then (at_ a1 0 fun x3=>(bif (decide ((IntKind.i32.wrap (x3.toNat:Int)) ≥ 128)) then (g.strings_IndexRune a2 65533 (fun r4=>(bif (decide (r4 ≥ 0)) then k0 0 else k0 (-1)))) else (g.strings_IndexRune a2 (IntKind.i32.wrap (x3.toNat:Int)) (fun r5=>(bif (decide (r5 ≥ 0)) then k0 0 else k0 (-1)))))) else (g.z93z (a1.length:Int) (fun r6=>(bif r6 then (g.z96z a2) else (bif ((a2.length:Int) == 1) then (at_ a2 0 fun x7=>(bif (decide ((IntKind.i32.wrap (x7.toNat:Int)) ≥ 128)) then (z35z_L24 g g.N a1 65533 (a1.length:Int) (fun e15=>k0 e15) (k0 (-1))) else (z35z_L24 g g.N a1 (IntKind.i32.wrap (x7.toNat:Int)) (a1.length:Int) (fun e16=>k0 e16) (k0 (-1))))) else (z35z_L31 g g.N a1 a2 (a1.length:Int) (fun e26=>k0 e26) (k0 (-1)))))))))
noncomputable def yd4y [Fuel]:C_z35z:=⟨NN,@z96z _,@strings_IndexRune _,@z93z _,@z40z _⟩
noncomputable def z35z [Fuel]:ysqy:=@z35z_ yd4y
def ykcy (g:ysqy):Spec A:=fun args=>match args with | [.d (.str a1),.d (.str a2)]=>fun k=>g a1 a2 (fun z0=>k (.d (.int .i64 z0)) [.undef,.undef]) | _=>fun _=>none
def yjxy:SSt:=mkSh 96 0 [(0,.str),(9,.int .i32),(10,.int .i64)] []
def yd2y (g:C_z35z) (n:Nat):LPT A:=fun ps=>match ps with | [.d (.str p1),.d (.int .i32 p2),.d (.int .i64 p3)]=>fun K=>z35z_L24 g n p1 p2 p3 (fun z0=>K .ret (mkSt 96 0 [(4,.d (.int .i64 z0))] [])) (K (.exit 2) (mkSt 96 0 [] [])) | _=>fun _=>none
def yjsy:SSt:=mkSh 96 0 [(0,.str),(1,.str),(13,.int .i64)] []
def yd7y (g:C_z35z) (n:Nat):LPT A:=fun ps=>match ps with | [.d (.str p1),.d (.str p2),.d (.int .i64 p3)]=>fun K=>z35z_L31 g n p1 p2 p3 (fun z0=>K .ret (mkSt 96 0 [(4,.d (.int .i64 z0))] [])) (K (.exit 4) (mkSt 96 0 [] [])) | _=>fun _=>none
noncomputable def ymly:Code:=(Tryz.f180.body).getD .skip
noncomputable def yiry (g:C_z35z):Env A:=mkE [(187,ypjy g.z96z),(211,yeNy g.strings_IndexRune),(212,yoAy g.z93z),(214,ypNy g.z40z)] [] [(24,⟨[0,9,10],[],[],[],[],[],[]⟩),(31,⟨[0,1,13],[],[],[],[],[],[]⟩)] [(24,⟨[4],[],[],[],[],[],[]⟩),(31,⟨[4],[],[],[],[],[],[]⟩)] [(24,yaey yjxy (yd2y g g.N)),(31,yaey yjsy (yd7y g g.N))] [] [] [] [] []
theorem yCgy [Fuel]:yagy (yiry yd4y).C:=ct_of (P:=Tryz.prog) (T:=T) (.cons yCly (.cons yfwy (.cons yBIy (.cons yBOy .nil)))) (by kernel_rfl)
noncomputable def yAPy:Code:=sub [1,1,1,0,1,0,1,1,0,0,1,0,0] ymly
theorem yAGy [Fuel]:yacy (yiry yd4y) NN yAPy:=yBSy (by kernel_rfl)
noncomputable def yqay:Code:=sub [1,1,1,1,0,1,0,1,1,0,1,0,0] ymly
theorem yDuy (g:C_z35z) (n:Nat):yahy (yiry g) g.N yqay yjxy (yd2y g) n:=by intro ps; unfold yd2y; split; exact .inr fun R K=>(by kernel_rfl); exact .inl fun R K=>rfl
theorem yAVy [Fuel]:yacy (yiry yd4y) NN yqay:=yaby yjxy (yd2y yd4y) (by kernel_rfl) yCgy (cuts0 (fun _=>rfl) (by kernel_rfl)) (fun ps R K=>by unfold yd2y; split <;> (try unfold z35z_L24) <;> rfl) (yDuy yd4y)
noncomputable def yp6y:Code:=sub [1,1,1,1,1,0,1,0,0] ymly
theorem yDby (g:C_z35z) (n:Nat):yahy (yiry g) g.N yp6y yjsy (yd7y g) n:=by intro ps; unfold yd7y; split; exact .inr fun R K=>(by kernel_rfl); exact .inl fun R K=>rfl
theorem yASy [Fuel]:yacy (yiry yd4y) NN yp6y:=yaby yjsy (yd7y yd4y) (by kernel_rfl) yCgy (cuts0 (fun _=>rfl) (by kernel_rfl)) (fun ps R K=>by unfold yd7y; split <;> (try unfold z35z_L31) <;> rfl) (yDby yd4y)
theorem yJEy (g:C_z35z):Same (ykcy (@z35z_ g)) (abody (yiry g) Tryz.f180 ymly 0 [] [.asis] g.N):=by intro args; unfold ykcy; split; exact .inr fun R k=>(by kernel_rfl); exact .inl fun R k=>rfl
theorem yBZy [Fuel]:Ok 180 (ykcy (@z35z _)):=yaay std (.cons yCly (.cons yfwy (.cons yBIy (.cons yBOy .nil)))) ⟨rfl,rfl,by kernel_rfl,rfl,rfl,rfl⟩ (yJEy yd4y) (cutsL (fun _=>rfl) (.cons yAGy (.cons yAVy (.cons yASy .nil))) (by kernel_rfl)) Tryz.func180 (by kernel_rfl) (by kernel_rfl)
abbrev yivy:Type 1:=List UInt8→{R:Type}→(Int→Bool→Option R)→Option R
structure C_call_split where
 N:Nat
 z79z:ysdy
 z35z:ysqy
def yqiy (g:C_call_split) (a1:List UInt8) {R:Type} (k0:Int→Bool→Option R):Option R :=
 (g.z79z a1 (fun r2 r3=>(bif (!r3) then k0 0 false else (bif (decide ((a1.length:Int) > 10)) then k0 0 false else (g.z35z a1 [48,49,50,51,52,53,54,55,56,57] (fun r4=>(bif (decide (r4 < 1)) then k0 0 false else (bif (decide (r4 > 3)) then k0 0 false else (bif (decide ((w64 ((w64 ((a1.length:Int) - r4)) - 1)) < 1)) then k0 0 false else (bif (decide ((w64 ((w64 ((a1.length:Int) - r4)) - 1)) > 4)) then k0 0 false else (bif (decide (0≤r4) && decide (r4≤(a1.length:Int))) then (g.z79z (a1.take (r4:Int).toNat) (fun r5 r6=>k0 r4 (decide (r5 > 0)))) else none)))))))))))
noncomputable def ynsy [Fuel]:C_call_split:=⟨NN,@z79z _,@z35z _⟩
noncomputable def call_split [Fuel]:yivy:=@yqiy ynsy
def yeoy (g:yivy):Spec A:=fun args=>match args with | [.d (.str a1)]=>fun k=>g a1 (fun z0 z1=>k (.tup [.d (.int .i64 z0),.d (.bool z1)]) [.undef]) | _=>fun _=>none
noncomputable def yHXy:Code:=(Tryz.f175.body).getD .skip
noncomputable def yzUy (g:C_call_split):Env A:=mkE [(177,ykny g.z79z),(180,ykcy g.z35z)] [] [] [] [] [] [] [] [] []
theorem ywqy (g:C_call_split):Same (yeoy (@yqiy g)) (abody (yzUy g) Tryz.f175 yHXy 0 [] [.asis,.asis] g.N):=by intro args; unfold yeoy; split; exact .inr fun R k=>(by kernel_rfl); exact .inl fun R k=>rfl
theorem yv7y [Fuel]:Ok 175 (yeoy (@call_split _)):=yaay std (.cons yBDy (.cons yBZy .nil)) ⟨rfl,rfl,by kernel_rfl,rfl,rfl,rfl⟩ (ywqy ynsy) (cuts0 (fun _=>rfl) (by kernel_rfl)) Tryz.func175 (by kernel_rfl) (by kernel_rfl)
abbrev yiBy:Type 1:=List UInt8→{R:Type}→(G_Parts→Bool→Option R)→Option R
structure C_call_based where
 N:Nat
 call_split:yivy
def yp0y (g:C_call_based) (a1:List UInt8) {R:Type} (k0:G_Parts→Bool→Option R):Option R :=
 (g.call_split a1 (fun r2 r3=>(bif (!r3) then k0 (⟨[],[],[],0,[]⟩:G_Parts) false else (bif (decide (0≤(w64 (r2 + 1))) && decide ((w64 (r2 + 1))≤(a1.length:Int))) then (bif (decide (0≤(w64 (r2 + 1))) && decide ((w64 (r2 + 1))≤(a1.length:Int))) then k0 (⟨a1,(a1.take ((w64 (r2 + 1)):Int).toNat),(a1.drop ((w64 (r2 + 1)):Int).toNat),0,[]⟩:G_Parts) true else none) else none))))
noncomputable def ynjy [Fuel]:C_call_based:=⟨NN,@call_split _⟩
noncomputable def call_based [Fuel]:yiBy:=@yp0y ynjy
def yefy (g:yiBy):Spec A:=fun args=>match args with | [.d (.str a1)]=>fun k=>g a1 (fun z0 z1=>k (.tup [.agg [.d (.str z0.f_Base),.d (.str z0.f_Prefix),.d (.str z0.f_Suffix),.d (.int .i64 z0.f_Kind),.d (.str z0.f_Added)],.d (.bool z1)]) [.undef]) | _=>fun _=>none
noncomputable def yIay:Code:=(Tryz.f137.body).getD .skip
noncomputable def yxQy (g:C_call_based):Env A:=mkE [(175,yeoy g.call_split)] [(2,[0])] [] [] [] [] [] [] [] []
theorem ywky (g:C_call_based):Same (yefy (@yp0y g)) (abody (yxQy g) Tryz.f137 yIay 1 [] [.asis,.asis] g.N):=by intro args; unfold yefy; split; exact .inr fun R k=>(by kernel_rfl); exact .inl fun R k=>rfl
theorem ywHy [Fuel]:Ok 137 (yefy (@call_based _)):=yaay std (.cons yv7y .nil) ⟨rfl,rfl,by kernel_rfl,rfl,rfl,rfl⟩ (ywky ynjy) (cuts0 (fun _=>rfl) (by kernel_rfl)) Tryz.func137 (by kernel_rfl) (by kernel_rfl)
abbrev yb9y:Type 1:=List UInt8→List UInt8→{R:Type}→(Int→Option R)→Option R
def stringslite_Index [Fuel]:yb9y:=@X_ix1
def ycXy (g:yb9y):Spec A:=yj0y g
theorem yfCy [Fuel]:Ok 208 (ycXy (@stringslite_Index _)):=⟨ywly (yGry (Any.stringslite_Index_one Tryz.lays219)),yAny,ybMy (fn:=Tryz.f208) Tryz.func208 (by kernel_rfl) (by kernel_rfl)⟩
abbrev yt3y:Type 1:=List UInt8→List UInt8→{R:Type}→(List UInt8→List UInt8→Bool→Option R)→Option R
structure C_z104z where
 N:Nat
 stringslite_Index:yb9y
def z104z_ (g:C_z104z) (a1 a2:List UInt8) {R:Type} (k0:List UInt8→List UInt8→Bool→Option R):Option R :=
 (g.stringslite_Index a1 a2 (fun r3=>(bif (decide (r3 ≥ 0)) then (bif (decide (0≤r3) && decide (r3≤(a1.length:Int))) then (bif (decide (0≤(w64 (r3 + (a2.length:Int)))) && decide ((w64 (r3 + (a2.length:Int)))≤(a1.length:Int))) then k0 (a1.take (r3:Int).toNat) (a1.drop ((w64 (r3 + (a2.length:Int))):Int).toNat) true else none) else none) else k0 a1 [] false)))
noncomputable def yB3y [Fuel]:C_z104z:=⟨NN,@stringslite_Index _⟩
noncomputable def z104z [Fuel]:yt3y:=@z104z_ yB3y
def ylyy (g:yt3y):Spec A:=fun args=>match args with | [.d (.str a1),.d (.str a2)]=>fun k=>g a1 a2 (fun z0 z1 z2=>k (.tup [.d (.str z0),.d (.str z1),.d (.bool z2)]) [.undef,.undef]) | _=>fun _=>none
noncomputable def yHHy:Code:=(Tryz.f176.body).getD .skip
noncomputable def yL5y (g:C_z104z):Env A:=mkE [(208,ycXy g.stringslite_Index)] [] [] [] [] [] [] [] [] []
theorem yHyy (g:C_z104z):Same (ylyy (@z104z_ g)) (abody (yL5y g) Tryz.f176 yHHy 0 [] [.asis,.asis,.asis] g.N):=by intro args; unfold ylyy; split; exact .inr fun R k=>(by kernel_rfl); exact .inl fun R k=>rfl
theorem yHoy [Fuel]:Ok 176 (ylyy (@z104z _)):=yaay std (.cons yfCy .nil) ⟨rfl,rfl,by kernel_rfl,rfl,rfl,rfl⟩ (yHyy yB3y) (cuts0 (fun _=>rfl) (by kernel_rfl)) Tryz.func176 (by kernel_rfl) (by kernel_rfl)
abbrev yoIy:Type 1:=List UInt8→List UInt8→{R:Type}→(List UInt8→List UInt8→Bool→Option R)→Option R
structure C_z110z where
 N:Nat
 z104z:yt3y
def z110z_ (g:C_z110z) (a1 a2:List UInt8) {R:Type} (k0:List UInt8→List UInt8→Bool→Option R):Option R :=
 (g.z104z a1 a2 (fun r3 r4 r5=>k0 r3 r4 r5))
noncomputable def yCpy [Fuel]:C_z110z:=⟨NN,@z104z _⟩
noncomputable def z110z [Fuel]:yoIy:=@z110z_ yCpy
def yijy (g:yoIy):Spec A:=fun args=>match args with | [.d (.str a1),.d (.str a2)]=>fun k=>g a1 a2 (fun z0 z1 z2=>k (.tup [.d (.str z0),.d (.str z1),.d (.bool z2)]) [.undef,.undef]) | _=>fun _=>none
noncomputable def yG9y:Code:=(Tryz.f138.body).getD .skip
noncomputable def yLGy (g:C_z110z):Env A:=mkE [(176,ylyy g.z104z)] [] [] [] [] [] [] [] [] []
theorem yJry (g:C_z110z):Same (yijy (@z110z_ g)) (abody (yLGy g) Tryz.f138 yG9y 0 [] [.asis,.asis,.asis] g.N):=by intro args; unfold yijy; split; exact .inr fun R k=>(by kernel_rfl); exact .inl fun R k=>rfl
theorem yy8y [Fuel]:Ok 138 (yijy (@z110z _)):=yaay std (.cons yHoy .nil) ⟨rfl,rfl,by kernel_rfl,rfl,rfl,rfl⟩ (yJry yCpy) (cuts0 (fun _=>rfl) (by kernel_rfl)) Tryz.func138 (by kernel_rfl) (by kernel_rfl)
abbrev yory:Type 1:=List UInt8→{R:Type}→(Bool→Option R)→Option R
structure C_z105z where
 N:Nat
 z79z:ysdy
def z105z_ (g:C_z105z) (a1:List UInt8) {R:Type} (k0:Bool→Option R):Option R :=
 (g.z79z a1 (fun r2 r3=>(bif r3 then (bif (decide (r2 > 0)) then k0 (decide ((a1.length:Int)≤4)) else k0 false) else k0 false)))
noncomputable def yBNy [Fuel]:C_z105z:=⟨NN,@z79z _⟩
noncomputable def z105z [Fuel]:yory:=@z105z_ yBNy
def yioy (g:yory):Spec A:=fun args=>match args with | [.d (.str a1)]=>fun k=>g a1 (fun z0=>k (.d (.bool z0)) [.undef]) | _=>fun _=>none
noncomputable def yIty:Code:=(Tryz.f139.body).getD .skip
noncomputable def yKly (g:C_z105z):Env A:=mkE [(177,ykny g.z79z)] [] [] [] [] [] [] [] [] []
theorem yHgy (g:C_z105z):Same (yioy (@z105z_ g)) (abody (yKly g) Tryz.f139 yIty 0 [] [.asis] g.N):=by intro args; unfold yioy; split; exact .inr fun R k=>(by kernel_rfl); exact .inl fun R k=>rfl
theorem yAky [Fuel]:Ok 139 (yioy (@z105z _)):=yaay std (.cons yBDy .nil) ⟨rfl,rfl,by kernel_rfl,rfl,rfl,rfl⟩ (yHgy yBNy) (cuts0 (fun _=>rfl) (by kernel_rfl)) Tryz.func139 (by kernel_rfl) (by kernel_rfl)
abbrev yjwy:Type 1:=List UInt8→{R:Type}→(Int→List UInt8→Bool→Option R)→Option R
structure C_call_tail where
 N:Nat
 z105z:yory
 z113z:yo5y
def ytoy (g:C_call_tail) (a1:List UInt8) {R:Type} (k0:Int→List UInt8→Bool→Option R):Option R :=
 (bif (a1 == [112]) then k0 3 [] true else (bif (a1 == [109]) then k0 4 [] true else (bif (a1 == [109,109]) then k0 5 [] true else (bif (a1 == [97,109]) then k0 6 [] true else (bif ((a1.length:Int) == 1) then (at_ a1 0 fun x2=>(g.z113z (x2.toNat:Int) (fun r3=>(bif r3 then k0 2 a1 true else (g.z105z a1 (fun r4=>k0 1 a1 r4)))))) else (g.z105z a1 (fun r5=>k0 1 a1 r5)))))))
noncomputable def yp2y [Fuel]:C_call_tail:=⟨NN,@z105z _,@z113z _⟩
noncomputable def call_tail [Fuel]:yjwy:=@ytoy yp2y
def yf4y (g:yjwy):Spec A:=fun args=>match args with | [.d (.str a1)]=>fun k=>g a1 (fun z0 z1 z2=>k (.tup [.d (.int .i64 z0),.d (.str z1),.d (.bool z2)]) [.undef]) | _=>fun _=>none
noncomputable def yG7y:Code:=(Tryz.f140.body).getD .skip
noncomputable def yADy (g:C_call_tail):Env A:=mkE [(139,yioy g.z105z),(178,yily g.z113z)] [] [] [] [] [] [] [] [] []
theorem yzJy (g:C_call_tail):Same (yf4y (@ytoy g)) (abody (yADy g) Tryz.f140 yG7y 0 [] [.asis,.asis,.asis] g.N):=by intro args; unfold yf4y; split; exact .inr fun R k=>(by kernel_rfl); exact .inl fun R k=>rfl
theorem yxky [Fuel]:Ok 140 (yf4y (@call_tail _)):=yaay std (.cons yAky (.cons yrey .nil)) ⟨rfl,rfl,by kernel_rfl,rfl,rfl,rfl⟩ (yzJy yp2y) (cuts0 (fun _=>rfl) (by kernel_rfl)) Tryz.func140 (by kernel_rfl) (by kernel_rfl)
abbrev yfyy:Type 1:=List UInt8→{R:Type}→(G_Parts→Bool→Option R)→Option R
structure C_call_Parts where
 N:Nat
 call_based:yiBy
 z110z:yoIy
 z105z:yory
 call_tail:yjwy
def yqhy (g:C_call_Parts) (a1:List UInt8) {R:Type} (k0:G_Parts→Bool→Option R):Option R :=
 (bif (decide ((a1.length:Int) > 14)) then k0 (⟨[],[],[],0,[]⟩:G_Parts) false else (g.call_based a1 (fun r2 r3=>(bif r3 then k0 r2 true else (g.z110z a1 [47] (fun r4 r5 r6=>(bif (!r6) then k0 (⟨[],[],[],0,[]⟩:G_Parts) false else (g.call_based r5 (fun r7 r8=>(bif r8 then (g.z105z r4 (fun r9=>(bif r9 then k0 (⟨r7.f_Base,r7.f_Prefix,r7.f_Suffix,1,r4⟩:G_Parts) true else (g.call_based r4 (fun r10 r11=>(g.call_tail r5 (fun r12 r13 r14=>(bif (!r11) then k0 (⟨[],[],[],0,[]⟩:G_Parts) false else (bif (!r14) then k0 (⟨[],[],[],0,[]⟩:G_Parts) false else k0 (⟨r10.f_Base,r10.f_Prefix,r10.f_Suffix,r12,r13⟩:G_Parts) true))))))))) else (g.call_based r4 (fun r15 r16=>(g.call_tail r5 (fun r17 r18 r19=>(bif (!r16) then k0 (⟨[],[],[],0,[]⟩:G_Parts) false else (bif (!r19) then k0 (⟨[],[],[],0,[]⟩:G_Parts) false else k0 (⟨r15.f_Base,r15.f_Prefix,r15.f_Suffix,r17,r18⟩:G_Parts) true))))))))))))))))
noncomputable def yoky [Fuel]:C_call_Parts:=⟨NN,@call_based _,@z110z _,@z105z _,@call_tail _⟩
noncomputable def call_Parts [Fuel]:yfyy:=@yqhy yoky
def ydcy (g:yfyy):Spec A:=fun args=>match args with | [.d (.str a1)]=>fun k=>g a1 (fun z0 z1=>k (.tup [.agg [.d (.str z0.f_Base),.d (.str z0.f_Prefix),.d (.str z0.f_Suffix),.d (.int .i64 z0.f_Kind),.d (.str z0.f_Added)],.d (.bool z1)]) [.undef]) | _=>fun _=>none
noncomputable def yLwy:Code:=(Tryz.f97.body).getD .skip
noncomputable def yxly (g:C_call_Parts):Env A:=mkE [(137,yefy g.call_based),(138,yijy g.z110z),(139,yioy g.z105z),(140,yf4y g.call_tail)] [(2,[0]),(4,[1]),(9,[2]),(11,[3])] [] [] [] [] [] [] [] []
theorem ywny (g:C_call_Parts):Same (ydcy (@yqhy g)) (abody (yxly g) Tryz.f97 yLwy 4 [] [.asis,.asis] g.N):=by intro args; unfold ydcy; split; exact .inr fun R k=>(by kernel_rfl); exact .inl fun R k=>rfl
theorem ymOy [Fuel]:Ok 97 (ydcy (@call_Parts _)):=yaay std (.cons ywHy (.cons yy8y (.cons yAky (.cons yxky .nil)))) ⟨rfl,rfl,by kernel_rfl,rfl,rfl,rfl⟩ (ywny yoky) (cuts0 (fun _=>rfl) (by kernel_rfl)) Tryz.func97 (by kernel_rfl) (by kernel_rfl)
abbrev yiTy:Type 1:=List UInt8→{R:Type}→(Bool→Option R)→Option R
structure C_call_Is where
 N:Nat
 call_Parts:yfyy
def ywVy (g:C_call_Is) (a1:List UInt8) {R:Type} (k0:Bool→Option R):Option R :=
 (g.call_Parts a1 (fun r2 r3=>k0 r3))
noncomputable def yviy [Fuel]:C_call_Is:=⟨NN,@call_Parts _⟩
noncomputable def call_Is [Fuel]:yiTy:=@ywVy yviy
def yfWy (g:yiTy):Spec A:=fun args=>match args with | [.d (.str a1)]=>fun k=>g a1 (fun z0=>k (.d (.bool z0)) [.undef]) | _=>fun _=>none
noncomputable def yLqy:Code:=(Tryz.f87.body).getD .skip
noncomputable def yFoy (g:C_call_Is):Env A:=mkE [(97,ydcy g.call_Parts)] [(3,[0])] [] [] [] [] [] [] [] []
theorem yD3y (g:C_call_Is):Same (yfWy (@ywVy g)) (abody (yFoy g) Tryz.f87 yLqy 1 [] [.asis] g.N):=by intro args; unfold yfWy; split; exact .inr fun R k=>(by kernel_rfl); exact .inl fun R k=>rfl
theorem yhQy [Fuel]:Ok 87 (yfWy (@call_Is _)):=yaay std (.cons ymOy .nil) ⟨rfl,rfl,by kernel_rfl,rfl,rfl,rfl⟩ (yD3y yviy) (cuts0 (fun _=>rfl) (by kernel_rfl)) Tryz.func87 (by kernel_rfl) (by kernel_rfl)
abbrev yn0y:Type 1:=List Int→{R:Type}→(Int→Option R)→Option R
def z81z_L3 (g:Nat):Nat→Int→List Int→Int→Int→{R:Type}→(Int→Int→Option R)→(Int→Option R)→Option R
 | 0,_,_,_,_,_,_,_=>none
 | n + 1,v2,v3,v4,v5,_,e0,e1=>(bif (decide (v5 < v4)) then (get_ v3 v5 fun x7=>(bif (x7 != v2) then e0 x7 v2 else z81z_L3 g n v2 v3 v4 (w64 (v5 + 1)) e0 e1)) else e1 v2)
def z81z_ (g:Nat) (a1:List Int) {R:Type} (k0:Int→Option R):Option R :=
 (z81z_L3 g g 0 a1 (a1.length:Int) 0 (fun e8 e9=>k0 e8) (fun e10=>k0 e10))
noncomputable def z81z [Fuel]:yn0y:=@z81z_ NN
def yiay (g:yn0y):Spec A:=fun args=>match args with | [.d (.sl 3 a1)]=>fun k=>g a1 (fun z0=>k (.d (.int .i64 z0)) [.undef]) | _=>fun _=>none
def ylFy:SSt:=mkSh 18 0 [(3,.int .i64),(6,.sl 3),(7,.int .i64),(8,.int .i64)] []
def yfqy (g:Nat) (n:Nat):LPT A:=fun ps=>match ps with | [.d (.int .i64 p1),.d (.sl 3 p2),.d (.int .i64 p3),.d (.int .i64 p4)]=>fun K=>z81z_L3 g n p1 p2 p3 p4 (fun z0 z1=>K .ret (mkSt 18 0 [(2,.d (.int .i64 z0)),(3,.d (.int .i64 z1))] [])) (fun z0=>K (.exit 0) (mkSt 18 0 [(3,.d (.int .i64 z0))] [])) | _=>fun _=>none
noncomputable def yw8y:Code:=(Tryz.f123.body).getD .skip
noncomputable def ytay (g:Nat):Env A:=mkE [] [] [(3,⟨[3,6,7,8],[],[],[],[],[],[]⟩)] [(3,⟨[2,3],[],[],[],[],[],[]⟩)] [(3,yaey ylFy (yfqy g g))] [] [] [] [] []
theorem yNHy [Fuel]:yagy (ytay NN).C:=ct_of (P:=Tryz.prog) (T:=T) .nil (by kernel_rfl)
noncomputable def ysoy:Code:=sub [1,1,0,1,0,0] yw8y
theorem yGCy (g:Nat) (n:Nat):yahy (ytay g) g ysoy ylFy (yfqy g) n:=by intro ps; unfold yfqy; split; exact .inr fun R K=>(by kernel_rfl); exact .inl fun R K=>rfl
theorem yEiy [Fuel]:yacy (ytay NN) NN ysoy:=yaby ylFy (yfqy NN) (by kernel_rfl) yNHy (cuts0 (fun _=>rfl) (by kernel_rfl)) (fun ps R K=>by unfold yfqy; split <;> (try unfold z81z_L3) <;> rfl) (yGCy NN)
theorem yJMy (g:Nat):Same (yiay (@z81z_ g)) (abody (ytay g) Tryz.f123 yw8y 0 [] [.asis] g):=by intro args; unfold yiay; split; exact .inr fun R k=>(by kernel_rfl); exact .inl fun R k=>rfl
theorem yuiy [Fuel]:Ok 123 (yiay (@z81z _)):=yaay std .nil ⟨rfl,rfl,by kernel_rfl,rfl,rfl,rfl⟩ (yJMy NN) (cutsL (fun _=>rfl) (.cons yEiy .nil) (by kernel_rfl)) Tryz.func123 (by kernel_rfl) (by kernel_rfl)
abbrev yzvy:Type 1:=G_Spot→G_Spot→{R:Type}→(Int→Option R)→Option R
structure C_z92z where
 N:Nat
 strings_Compare:ybAy
 z81z:yn0y
 z69z:ykry
def z92z_ (g:C_z92z) (a1 a2:G_Spot) {R:Type} (k0:Int→Option R):Option R :=
 (g.z69z a1.f_At a2.f_At (fun r3=>(g.z69z a1.f_Hertz a2.f_Hertz (fun r4=>(g.strings_Compare a1.f_Call a2.f_Call (fun r5=>(g.strings_Compare a1.f_By a2.f_By (fun r6=>(g.z81z [r3,r4,r5,r6] (fun r7=>k0 r7))))))))))
noncomputable def yxhy [Fuel]:C_z92z:=⟨NN,@strings_Compare _,@z81z _,@z69z _⟩
noncomputable def z92z [Fuel]:yzvy:=@z92z_ yxhy
def yoYy (g:yzvy):Spec A:=fun args=>match args with | [.agg [.d (.int .i64 a1),.d (.int .i64 a2),.d (.str a3),.d (.str a4)],.agg [.d (.int .i64 a5),.d (.int .i64 a6),.d (.str a7),.d (.str a8)]]=>fun k=>g ⟨a1,a2,a3,a4⟩ ⟨a5,a6,a7,a8⟩ (fun z0=>k (.d (.int .i64 z0)) [.undef,.undef]) | _=>fun _=>none
noncomputable def yKKy:Code:=(Tryz.f76.body).getD .skip
noncomputable def yOZy (g:C_z92z):Env A:=mkE [(93,ybKy g.strings_Compare),(123,yiay g.z81z),(124,ygry g.z69z)] [(2,[0]),(3,[1]),(25,[2])] [] [] [] [] [] [] [] []
theorem yKwy (g:C_z92z):Same (yoYy (@z92z_ g)) (abody (yOZy g) Tryz.f76 yKKy 3 [] [.asis] g.N):=by intro args; unfold yoYy; split; exact .inr fun R k=>(by kernel_rfl); exact .inl fun R k=>rfl
theorem yBAy [Fuel]:Ok 76 (yoYy (@z92z _)):=yaay std (.cons ycky (.cons yuiy (.cons ykyy .nil))) ⟨rfl,rfl,by kernel_rfl,rfl,rfl,rfl⟩ (yKwy yxhy) (cuts0 (fun _=>rfl) (by kernel_rfl)) Tryz.func76 (by kernel_rfl) (by kernel_rfl)
abbrev yyQy:Type 1:=List G_Spot→{R:Type}→(Int→Option R)→Option R
structure C_z61z where
 N:Nat
 z92z:yzvy
 z85z:ykpy
 z78z:yfsy
 call_Is:yiTy
def z61z_L4 (g:C_z61z):Nat→List G_Spot→List G_Spot→Int→Int→{R:Type}→(Int→Option R)→Option R→Option R
 | 0,_,_,_,_,_,_,_=>none
 | n + 1,v2,v3,v4,v5,_,e0,e1=>(bif (decide (v5 < v4)) then (get_ v3 v5 fun x13=>(g.z85z x13.f_At (fun r14=>(bif (!r14) then e0 1 else (g.z78z x13.f_Hertz 0 30000000000 (fun r15=>(bif r15 then e0 1 else (g.call_Is x13.f_Call (fun r16=>(bif (!r16) then e0 3 else (g.call_Is x13.f_By (fun r17=>(bif (!r17) then e0 3 else (bif (decide (v5 > 0)) then (get_ v2 (w64 (v5 - 1)) fun x18=>(g.z92z x18 x13 (fun r19=>(bif (decide (r19 ≥ 0)) then e0 7 else z61z_L4 g n v2 v3 v4 (w64 (v5 + 1)) e0 e1)))) else z61z_L4 g n v2 v3 v4 (w64 (v5 + 1)) e0 e1)))))))))))))) else e1)
def z61z_ (g:C_z61z) (a1:List G_Spot) {R:Type} (k0:Int→Option R):Option R :=
 (bif (decide ((a1.length:Int) > 2000)) then k0 2 else (z61z_L4 g g.N a1 a1 (a1.length:Int) 0 (fun e20=>k0 e20) (k0 0)))
noncomputable def yc6y [Fuel]:C_z61z:=⟨NN,@z92z _,@z85z _,@z78z _,@call_Is _⟩
noncomputable def z61z [Fuel]:yyQy:=@z61z_ yc6y
def yoTy (g:yyQy):Spec A:=fun args=>match args with | [.d (.sl 52 a1)]=>fun k=>g a1 (fun z0=>k (.d (.int .i64 z0)) [.undef]) | _=>fun _=>none
def ymdy:SSt:=mkSh 50 1 [(0,.sl 52),(8,.sl 52),(9,.int .i64),(10,.int .i64)] []
def ygey (g:C_z61z) (n:Nat):LPT A:=fun ps=>match ps with | [.d (.sl 52 p1),.d (.sl 52 p2),.d (.int .i64 p3),.d (.int .i64 p4)]=>fun K=>z61z_L4 g n p1 p2 p3 p4 (fun z0=>K .ret (mkSt 50 1 [(2,.d (.int .i64 z0))] [])) (K (.exit 0) (mkSt 50 1 [] [])) | _=>fun _=>none
noncomputable def yCwy:Code:=(Tryz.f31.body).getD .skip
noncomputable def yrLy (g:C_z61z):Env A:=mkE [(76,yoYy g.z92z),(85,ygly g.z85z),(86,ydsy g.z78z),(87,yfWy g.call_Is)] [(4,[0])] [(4,⟨[0,8,9,10],[],[],[],[],[],[]⟩)] [(4,⟨[2],[],[],[],[],[],[]⟩)] [(4,yaey ymdy (ygey g g.N))] [] [] [] [] []
theorem yMNy [Fuel]:yagy (yrLy yc6y).C:=ct_of (P:=Tryz.prog) (T:=T) (.cons yBAy (.cons ykBy (.cons ydMy (.cons yhQy .nil)))) (by kernel_rfl)
noncomputable def yrry:Code:=sub [1,1,0,1,0,0] yCwy
theorem yFMy (g:C_z61z) (n:Nat):yahy (yrLy g) g.N yrry ymdy (ygey g) n:=by intro ps; unfold ygey; split; exact .inr fun R K=>(by kernel_rfl); exact .inl fun R K=>rfl
theorem yEFy [Fuel]:yacy (yrLy yc6y) NN yrry:=yaby ymdy (ygey yc6y) (by kernel_rfl) yMNy (cuts0 (fun _=>rfl) (by kernel_rfl)) (fun ps R K=>by unfold ygey; split <;> (try unfold z61z_L4) <;> rfl) (yFMy yc6y)
theorem yKjy (g:C_z61z):Same (yoTy (@z61z_ g)) (abody (yrLy g) Tryz.f31 yCwy 1 [] [.asis] g.N):=by intro args; unfold yoTy; split; exact .inr fun R k=>(by kernel_rfl); exact .inl fun R k=>rfl
theorem yLny [Fuel]:Ok 31 (yoTy (@z61z _)):=yaay std (.cons yBAy (.cons ykBy (.cons ydMy (.cons yhQy .nil)))) ⟨rfl,rfl,by kernel_rfl,rfl,rfl,rfl⟩ (yKjy yc6y) (cutsL (fun _=>rfl) (.cons yEFy .nil) (by kernel_rfl)) Tryz.func31 (by kernel_rfl) (by kernel_rfl)
abbrev ysXy:Type 1:=List G_Band→List G_Spot→{R:Type}→(Int→Option R)→Option R
structure C_z86z where
 N:Nat
 z61z:yyQy
 z19z:yyly
def z86z_ (g:C_z86z) (a1:List G_Band) (a2:List G_Spot) {R:Type} (k0:Int→Option R):Option R :=
 (g.z19z a1 (fun r3=>(bif (r3 != 0) then k0 r3 else (g.z61z a2 (fun r4=>k0 r4)))))
noncomputable def yzCy [Fuel]:C_z86z:=⟨NN,@z61z _,@z19z _⟩
noncomputable def z86z [Fuel]:ysXy:=@z86z_ yzCy
def yj4y (g:ysXy):Spec A:=fun args=>match args with | [.d (.sl 69 a1),.d (.sl 52 a2)]=>fun k=>g a1 a2 (fun z0=>k (.d (.int .i64 z0)) [.undef,.undef]) | _=>fun _=>none
noncomputable def yJOy:Code:=(Tryz.f47.body).getD .skip
noncomputable def yO1y (g:C_z86z):Env A:=mkE [(31,yoTy g.z61z),(94,ypay g.z19z)] [] [] [] [] [] [] [] [] []
theorem yMyy (g:C_z86z):Same (yj4y (@z86z_ g)) (abody (yO1y g) Tryz.f47 yJOy 0 [] [.asis] g.N):=by intro args; unfold yj4y; split; exact .inr fun R k=>(by kernel_rfl); exact .inl fun R k=>rfl
theorem yoxy [Fuel]:Ok 47 (yj4y (@z86z _)):=yaay std (.cons yLny (.cons yL4y .nil)) ⟨rfl,rfl,by kernel_rfl,rfl,rfl,rfl⟩ (yMyy yzCy) (cuts0 (fun _=>rfl) (by kernel_rfl)) Tryz.func47 (by kernel_rfl) (by kernel_rfl)
abbrev ycHy:Type 1:=Int→{R:Type}→(Bool→Option R)→Option R
structure C_kit_IsMode where
 N:Nat
 z78z:yfsy
def yjqy (g:C_kit_IsMode) (a1:Int) {R:Type} (k0:Bool→Option R):Option R :=
 (g.z78z a1 1 3 (fun r2=>k0 (!r2)))
noncomputable def yity [Fuel]:C_kit_IsMode:=⟨NN,@z78z _⟩
noncomputable def kit_IsMode [Fuel]:ycHy:=@yjqy yity
def ybUy (g:ycHy):Spec A:=fun args=>match args with | [.d (.int .i64 a1)]=>fun k=>g a1 (fun z0=>k (.d (.bool z0)) [.undef]) | _=>fun _=>none
noncomputable def yN7y:Code:=(Tryz.f49.body).getD .skip
noncomputable def yxKy (g:C_kit_IsMode):Env A:=mkE [(86,ydsy g.z78z)] [] [] [] [] [] [] [] [] []
theorem ywwy (g:C_kit_IsMode):Same (ybUy (@yjqy g)) (abody (yxKy g) Tryz.f49 yN7y 0 [] [.asis] g.N):=by intro args; unfold ybUy; split; exact .inr fun R k=>(by kernel_rfl); exact .inl fun R k=>rfl
theorem ycfy [Fuel]:Ok 49 (ybUy (@kit_IsMode _)):=yaay std (.cons ydMy .nil) ⟨rfl,rfl,by kernel_rfl,rfl,rfl,rfl⟩ (ywwy yity) (cuts0 (fun _=>rfl) (by kernel_rfl)) Tryz.func49 (by kernel_rfl) (by kernel_rfl)
abbrev yiAy:Type 1:=List UInt8→{R:Type}→(Bool→Option R)→Option R
structure C_kit_IsName where
 N:Nat
 kit_IsKey:ycvy
def yjhy (g:C_kit_IsName) (a1:List UInt8) {R:Type} (k0:Bool→Option R):Option R :=
 (bif (a1 == []) then k0 true else (g.kit_IsKey a1 (fun r2=>k0 r2)))
noncomputable def yisy [Fuel]:C_kit_IsName:=⟨NN,@kit_IsKey _⟩
noncomputable def kit_IsName [Fuel]:yiAy:=@yjhy yisy
def yegy (g:yiAy):Spec A:=fun args=>match args with | [.d (.str a1)]=>fun k=>g a1 (fun z0=>k (.d (.bool z0)) [.undef]) | _=>fun _=>none
noncomputable def yIAy:Code:=(Tryz.f136.body).getD .skip
noncomputable def yzpy (g:C_kit_IsName):Env A:=mkE [(115,ybOy g.kit_IsKey)] [] [] [] [] [] [] [] [] []
theorem ywEy (g:C_kit_IsName):Same (yegy (@yjhy g)) (abody (yzpy g) Tryz.f136 yIAy 0 [] [.asis] g.N):=by intro args; unfold yegy; split; exact .inr fun R k=>(by kernel_rfl); exact .inl fun R k=>rfl
theorem yv4y [Fuel]:Ok 136 (yegy (@kit_IsName _)):=yaay std (.cons ybly .nil) ⟨rfl,rfl,by kernel_rfl,rfl,rfl,rfl⟩ (ywEy yisy) (cuts0 (fun _=>rfl) (by kernel_rfl)) Tryz.func136 (by kernel_rfl) (by kernel_rfl)
abbrev yxIy:Type 1:=G_Contact→{R:Type}→(Int→Option R)→Option R
structure C_z94z where
 N:Nat
 kit_IsMode:ycHy
 z85z:ykpy
 z78z:yfsy
 call_Is:yiTy
 kit_IsKey:ycvy
 kit_IsName:yiAy
def z94z_ (g:C_z94z) (a1:G_Contact) {R:Type} (k0:Int→Option R):Option R :=
 (g.z85z a1.f_At (fun r2=>(bif (!r2) then k0 1 else (g.kit_IsMode a1.f_Mode (fun r3=>(bif (!r3) then k0 4 else (g.kit_IsKey a1.f_Band (fun r4=>(bif (!r4) then k0 5 else (g.call_Is a1.f_Call (fun r5=>(bif (!r5) then k0 3 else (g.z78z a1.f_Sent 0 99999 (fun r6=>(bif r6 then k0 1 else (g.z78z a1.f_Heard 0 99999 (fun r7=>(bif r7 then k0 1 else (g.kit_IsName a1.f_Gave (fun r8=>(bif (!r8) then k0 5 else (g.kit_IsName a1.f_Got (fun r9=>(bif (!r9) then k0 5 else k0 0))))))))))))))))))))))))
noncomputable def yzfy [Fuel]:C_z94z:=⟨NN,@kit_IsMode _,@z85z _,@z78z _,@call_Is _,@kit_IsKey _,@kit_IsName _⟩
noncomputable def z94z [Fuel]:yxIy:=@z94z_ yzfy
def ypKy (g:yxIy):Spec A:=fun args=>match args with | [.agg [.d (.int .i64 a1),.d (.int .i64 a2),.d (.str a3),.d (.str a4),.d (.int .i64 a5),.d (.int .i64 a6),.d (.str a7),.d (.str a8)]]=>fun k=>g ⟨a1,a2,a3,a4,a5,a6,a7,a8⟩ (fun z0=>k (.d (.int .i64 z0)) [.undef]) | _=>fun _=>none
noncomputable def yJ6y:Code:=(Tryz.f95.body).getD .skip
noncomputable def yOXy (g:C_z94z):Env A:=mkE [(49,ybUy g.kit_IsMode),(85,ygly g.z85z),(86,ydsy g.z78z),(87,yfWy g.call_Is),(115,ybOy g.kit_IsKey),(136,yegy g.kit_IsName)] [(1,[0])] [] [] [] [] [] [] [] []
theorem yOhy (g:C_z94z):Same (ypKy (@z94z_ g)) (abody (yOXy g) Tryz.f95 yJ6y 1 [] [.asis] g.N):=by intro args; unfold ypKy; split; exact .inr fun R k=>(by kernel_rfl); exact .inl fun R k=>rfl
theorem yBuy [Fuel]:Ok 95 (ypKy (@z94z _)):=yaay std (.cons ycfy (.cons ykBy (.cons ydMy (.cons yhQy (.cons ybly (.cons yv4y .nil)))))) ⟨rfl,rfl,by kernel_rfl,rfl,rfl,rfl⟩ (yOhy yzfy) (cuts0 (fun _=>rfl) (by kernel_rfl)) Tryz.func95 (by kernel_rfl) (by kernel_rfl)
abbrev yuCy:Type 1:=G_Contact→G_Contact→{R:Type}→(Int→Option R)→Option R
structure C_z111z where
 N:Nat
 strings_Compare:ybAy
 z81z:yn0y
 z69z:ykry
def z111z_ (g:C_z111z) (a1 a2:G_Contact) {R:Type} (k0:Int→Option R):Option R :=
 (g.z69z a1.f_At a2.f_At (fun r3=>(g.strings_Compare a1.f_Call a2.f_Call (fun r4=>(g.strings_Compare a1.f_Band a2.f_Band (fun r5=>(g.z69z a1.f_Mode a2.f_Mode (fun r6=>(g.z81z [r3,r4,r5,r6] (fun r7=>k0 r7))))))))))
noncomputable def ytVy [Fuel]:C_z111z:=⟨NN,@strings_Compare _,@z81z _,@z69z _⟩
noncomputable def z111z [Fuel]:yuCy:=@z111z_ ytVy
def yley (g:yuCy):Spec A:=fun args=>match args with | [.agg [.d (.int .i64 a1),.d (.int .i64 a2),.d (.str a3),.d (.str a4),.d (.int .i64 a5),.d (.int .i64 a6),.d (.str a7),.d (.str a8)],.agg [.d (.int .i64 a9),.d (.int .i64 a10),.d (.str a11),.d (.str a12),.d (.int .i64 a13),.d (.int .i64 a14),.d (.str a15),.d (.str a16)]]=>fun k=>g ⟨a1,a2,a3,a4,a5,a6,a7,a8⟩ ⟨a9,a10,a11,a12,a13,a14,a15,a16⟩ (fun z0=>k (.d (.int .i64 z0)) [.undef,.undef]) | _=>fun _=>none
noncomputable def yKHy:Code:=(Tryz.f96.body).getD .skip
noncomputable def yNcy (g:C_z111z):Env A:=mkE [(93,ybKy g.strings_Compare),(123,yiay g.z81z),(124,ygry g.z69z)] [(2,[0]),(3,[1]),(25,[2])] [] [] [] [] [] [] [] []
theorem yIiy (g:C_z111z):Same (yley (@z111z_ g)) (abody (yNcy g) Tryz.f96 yKHy 3 [] [.asis] g.N):=by intro args; unfold yley; split; exact .inr fun R k=>(by kernel_rfl); exact .inl fun R k=>rfl
theorem yxJy [Fuel]:Ok 96 (yley (@z111z _)):=yaay std (.cons ycky (.cons yuiy (.cons ykyy .nil))) ⟨rfl,rfl,by kernel_rfl,rfl,rfl,rfl⟩ (yIiy ytVy) (cuts0 (fun _=>rfl) (by kernel_rfl)) Tryz.func96 (by kernel_rfl) (by kernel_rfl)
end Go.Am
