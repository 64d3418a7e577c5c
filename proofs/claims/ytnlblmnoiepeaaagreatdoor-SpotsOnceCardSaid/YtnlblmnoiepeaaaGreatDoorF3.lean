/- The functions of the program as Lean functions, each shown to be what the code computes, part 3. No condition: lemmas for the claim. -/
import Derived.Test.YtnlblmnoiepeaaaGreatDoorF0
import Derived.Test.YtnlblmnoiepeaaaGreatDoorFSh
import Derived.Test.YtnlblmnoiepeaaaGreatDoorF1
import Derived.Test.YtnlblmnoiepeaaaGreatDoorF2
set_option linter.unusedVariables false
set_option maxRecDepth 100000
namespace Go.Am
open Go Go.Proofs
abbrev ys9y:Type 1:=Int→{R:Type}→Option R
def z105z_ (g:Nat) (a1:Int) {R:Type}  : Option R :=
 none
noncomputable def z105z [Fuel]:ys9y:=@z105z_ NN
def ykTy (g:ys9y):Spec A:=fun args=>match args with | [.d (.int .u8 a1)]=>fun k=>g a1 | _=>fun _=>none
noncomputable def yH1y:Code:=(Tryz.f232.body).getD .skip
noncomputable def yI3y (g:Nat):Env A:=mkE [] [] [] [] [] [] [] [] [] []
theorem yG0y (g:Nat):Same (ykTy (@z105z_ g)) (abody (yI3y g) Tryz.f232 yH1y 0 [] [.asis] g):=by intro args; unfold ykTy; split; exact .inr fun R k=>(by kernel_rfl); exact .inl fun R k=>rfl
theorem yyFy [Fuel]:Ok 232 (ykTy (@z105z _)):=yaay std .nil ⟨rfl,rfl,by kernel_rfl,rfl,rfl,rfl⟩ (yG0y NN) (cuts0 (fun _=>rfl) (by kernel_rfl)) Tryz.func232 (by kernel_rfl) (by kernel_rfl)
abbrev yyNy:Type 1:=List UInt8→{R:Type}→(Int→Int→Option R)→Option R
def z73z_ (g:Nat) (a1:List UInt8) {R:Type} (k0:Int→Int→Option R):Option R :=
 (bif (decide ((a1.length:Int) < 1)) then k0 65533 0 else (at_ a1 0 fun x2=>none))
noncomputable def z73z [Fuel]:yyNy:=@z73z_ NN
def ynQy (g:yyNy):Spec A:=fun args=>match args with | [.d (.str a1)]=>fun k=>g a1 (fun z0 z1=>k (.tup [.d (.int .i32 z0),.d (.int .i64 z1)]) [.undef]) | _=>fun _=>none
noncomputable def yHqy:Code:=(Tryz.f231.body).getD .skip
noncomputable def yOCy (g:Nat):Env A:=mkE [] [] [] [] [] [] [] [] [] []
theorem yKay (g:Nat):Same (ynQy (@z73z_ g)) (abody (yOCy g) Tryz.f231 yHqy 0 [] [.asis,.asis] g):=by intro args; unfold ynQy; split; exact .inr fun R k=>(by kernel_rfl); exact .inl fun R k=>rfl
theorem yK4y [Fuel]:Ok 231 (ynQy (@z73z _)):=yaay std .nil ⟨rfl,rfl,by kernel_rfl,rfl,rfl,rfl⟩ (yKay NN) (cuts0 (fun _=>rfl) (by kernel_rfl)) Tryz.func231 (by kernel_rfl) (by kernel_rfl)
abbrev yvPy:Type 1:=List UInt8→{R:Type}→(Int→Int→Option R)→Option R
structure C_z65z where
 N:Nat
 z73z:yyNy
def z65z_ (g:C_z65z) (a1:List UInt8) {R:Type} (k0:Int→Int→Option R):Option R :=
 (bif (!(a1 == [])) then (at_ a1 0 fun x2=>(bif (decide ((x2.toNat:Int) < 128)) then (at_ a1 0 fun x3=>k0 (IntKind.i32.wrap (x3.toNat:Int)) 1) else (g.z73z a1 (fun r4 r5=>k0 r4 r5)))) else (g.z73z a1 (fun r6 r7=>k0 r6 r7)))
noncomputable def yE1y [Fuel]:C_z65z:=⟨NN,@z73z _⟩
noncomputable def z65z [Fuel]:yvPy:=@z65z_ yE1y
def yogy (g:yvPy):Spec A:=fun args=>match args with | [.d (.str a1)]=>fun k=>g a1 (fun z0 z1=>k (.tup [.d (.int .i32 z0),.d (.int .i64 z1)]) [.undef]) | _=>fun _=>none
noncomputable def yGmy:Code:=(Tryz.f203.body).getD .skip
noncomputable def yOdy (g:C_z65z):Env A:=mkE [(231,ynQy g.z73z)] [] [] [] [] [] [] [] [] []
theorem yJVy (g:C_z65z):Same (yogy (@z65z_ g)) (abody (yOdy g) Tryz.f203 yGmy 0 [] [.asis,.asis] g.N):=by intro args; unfold yogy; split; exact .inr fun R k=>(by kernel_rfl); exact .inl fun R k=>rfl
theorem yBRy [Fuel]:Ok 203 (yogy (@z65z _)):=yaay std (.cons yK4y .nil) ⟨rfl,rfl,by kernel_rfl,rfl,rfl,rfl⟩ (yJVy yE1y) (cuts0 (fun _=>rfl) (by kernel_rfl)) Tryz.func203 (by kernel_rfl) (by kernel_rfl)
abbrev yvEy:Type 1:=List UInt8→{R:Type}→(Int→Int→Option R)→Option R
structure C_z19z where
 N:Nat
 z65z:yvPy
 z105z:ys9y
def z19z_L10 (g:C_z19z):Nat→List UInt8→Int→Int→Int→{R:Type}→(List UInt8→Int→Int→Option R)→Option R
 | 0,_,_,_,_,_,_=>none
 | n + 1,v3,v4,v5,v6,_,e0=>(bif (decide (v5 ≥ v6)) then (get_ v3 v5 fun x8=>(g.z105z (x8.toNat:Int))) else e0 v3 v4 v5)
def z19z_ (g:C_z19z) (a1:List UInt8) {R:Type} (k0:Int→Int→Option R):Option R :=
 (bif ((a1.length:Int) == 0) then k0 65533 0 else (get_ a1 (w64 ((a1.length:Int) - 1)) fun x2=>(bif (decide ((IntKind.i32.wrap (x2.toNat:Int)) < 128)) then k0 (IntKind.i32.wrap (x2.toNat:Int)) 1 else (z19z_L10 g g.N a1 (a1.length:Int) (w64 ((w64 ((a1.length:Int) - 1)) - 1)) (if 0 > (w64 ((a1.length:Int) - 4)) then 0 else (w64 ((a1.length:Int) - 4))) (fun e9 e10 e11=>(bif (decide (e11 < 0)) then (bif (decide (0≤0) && (decide (0≤e10) && decide (e10≤(e9.length:Int)))) then (g.z65z ((e9.take (e10:Int).toNat).drop (0:Int).toNat) (fun r12 r13=>(bif ((w64 (0 + r13)) != e10) then k0 65533 1 else k0 r12 r13))) else none) else (bif (decide (0≤e11) && (decide (e11≤e10) && decide (e10≤(e9.length:Int)))) then (g.z65z ((e9.take (e10:Int).toNat).drop (e11:Int).toNat) (fun r14 r15=>(bif ((w64 (e11 + r15)) != e10) then k0 65533 1 else k0 r14 r15))) else none)))))))
noncomputable def yjWy [Fuel]:C_z19z:=⟨NN,@z65z _,@z105z _⟩
noncomputable def z19z [Fuel]:yvEy:=@z19z_ yjWy
def yoay (g:yvEy):Spec A:=fun args=>match args with | [.d (.str a1)]=>fun k=>g a1 (fun z0 z1=>k (.tup [.d (.int .i32 z0),.d (.int .i64 z1)]) [.undef]) | _=>fun _=>none
def yi8y:SSt:=mkSh 51 0 [(0,.str),(4,.int .i64),(5,.int .i64),(6,.int .i64)] []
def yd3y (g:C_z19z) (n:Nat):LPT A:=fun ps=>match ps with | [.d (.str p1),.d (.int .i64 p2),.d (.int .i64 p3),.d (.int .i64 p4)]=>fun K=>z19z_L10 g n p1 p2 p3 p4 (fun z0 z1 z2=>K (.exit 0) (mkSt 51 0 [(0,.d (.str z0)),(4,.d (.int .i64 z1)),(5,.d (.int .i64 z2))] [])) | _=>fun _=>none
noncomputable def yxdy:Code:=(Tryz.f205.body).getD .skip
noncomputable def yrMy (g:C_z19z):Env A:=mkE [(203,yogy g.z65z),(232,ykTy g.z105z)] [] [(10,⟨[0,4,5,6],[],[],[],[],[],[]⟩)] [(10,⟨[0,4,5],[],[],[],[],[],[]⟩)] [(10,yafy yi8y (yd3y g g.N))] [] [] [] [] []
theorem yKAy [Fuel]:yahy (yrMy yjWy).C:=ct_of (P:=Tryz.prog) (T:=T) (.cons yBRy (.cons yyFy .nil)) (by kernel_rfl)
noncomputable def ypOy:Code:=sub [1,1,1,1,1,1,1,0,1,0,0] yxdy
theorem yCFy (g:C_z19z) (n:Nat):yaky (yrMy g) g.N ypOy yi8y (yd3y g) n:=by intro ps; unfold yd3y; split; exact .inr fun R K=>(by kernel_rfl); exact .inl fun R K=>rfl
theorem yzJy [Fuel]:yacy (yrMy yjWy) NN ypOy:=yaey yi8y (yd3y yjWy) (by kernel_rfl) yKAy (cuts0 (fun _=>rfl) (by kernel_rfl)) (fun ps R K=>by unfold yd3y; split <;> (try unfold z19z_L10) <;> rfl) (yCFy yjWy)
theorem yKjy (g:C_z19z):Same (yoay (@z19z_ g)) (abody (yrMy g) Tryz.f205 yxdy 0 [] [.asis,.asis] g.N):=by intro args; unfold yoay; split; exact .inr fun R k=>(by kernel_rfl); exact .inl fun R k=>rfl
theorem yBTy [Fuel]:Ok 205 (yoay (@z19z _)):=yaay std (.cons yBRy (.cons yyFy .nil)) ⟨rfl,rfl,by kernel_rfl,rfl,rfl,rfl⟩ (yKjy yjWy) (cutsL (fun _=>rfl) (.cons yzJy .nil) (by kernel_rfl)) Tryz.func205 (by kernel_rfl) (by kernel_rfl)
abbrev yrny:Type 1:=List UInt8→List UInt8→{R:Type}→(Int→Option R)→Option R
structure C_z16z where
 N:Nat
 z79z:yxby
 z19z:yvEy
 strings_IndexRune:ydiy
 z77z:yxEy
def z16z_L24 (g:C_z16z):Nat→List UInt8→Int→Int→{R:Type}→(Int→Option R)→Option R→Option R
 | 0,_,_,_,_,_,_=>none
 | n + 1,v8,v9,v10,_,e0,e1=>(bif (decide (v10 > 0)) then (bif (decide (0≤v10) && decide (v10≤(v8.length:Int))) then (g.z19z (v8.take (v10:Int).toNat) (fun r13 r14=>(bif (v9 == r13) then e0 (w64 (v10 - r14)) else z16z_L24 g n v8 v9 (w64 (v10 - r14)) e0 e1))) else none) else e1)
def z16z_L31 (g:C_z16z):Nat→List UInt8→List UInt8→Int→{R:Type}→(Int→Option R)→Option R→Option R
 | 0,_,_,_,_,_,_=>none
 | n + 1,v17,v18,v19,_,e0,e1=>(bif (decide (v19 > 0)) then (bif (decide (0≤v19) && decide (v19≤(v17.length:Int))) then (g.z19z (v17.take (v19:Int).toNat) (fun r23 r24=>(g.strings_IndexRune v18 r23 (fun r25=>(bif (decide (r25 ≥ 0)) then e0 (w64 (v19 - r24)) else z16z_L31 g n v17 v18 (w64 (v19 - r24)) e0 e1))))) else none) else e1)
def z16z_ (g:C_z16z) (a1 a2:List UInt8) {R:Type} (k0:Int→Option R):Option R :=
 (bif (a2 == []) then k0 (-1) else (bif ((a1.length:Int) == 1) then (at_ a1 0 fun x3=>(bif (decide ((IntKind.i32.wrap (x3.toNat:Int)) ≥ 128)) then (g.strings_IndexRune a2 65533 (fun r4=>(bif (decide (r4 ≥ 0)) then k0 0 else k0 (-1)))) else (g.strings_IndexRune a2 (IntKind.i32.wrap (x3.toNat:Int)) (fun r5=>(bif (decide (r5 ≥ 0)) then k0 0 else k0 (-1)))))) else (g.z77z (a1.length:Int) (fun r6=>(bif r6 then (g.z79z a2) else (bif ((a2.length:Int) == 1) then (at_ a2 0 fun x7=>(bif (decide ((IntKind.i32.wrap (x7.toNat:Int)) ≥ 128)) then (z16z_L24 g g.N a1 65533 (a1.length:Int) (fun e15=>k0 e15) (k0 (-1))) else (z16z_L24 g g.N a1 (IntKind.i32.wrap (x7.toNat:Int)) (a1.length:Int) (fun e16=>k0 e16) (k0 (-1))))) else (z16z_L31 g g.N a1 a2 (a1.length:Int) (fun e26=>k0 e26) (k0 (-1)))))))))
noncomputable def ydYy [Fuel]:C_z16z:=⟨NN,@z79z _,@z19z _,@strings_IndexRune _,@z77z _⟩
noncomputable def z16z [Fuel]:yrny:=@z16z_ ydYy
def ykey (g:yrny):Spec A:=fun args=>match args with | [.d (.str a1),.d (.str a2)]=>fun k=>g a1 a2 (fun z0=>k (.d (.int .i64 z0)) [.undef,.undef]) | _=>fun _=>none
def yiZy:SSt:=mkSh 96 0 [(0,.str),(9,.int .i32),(10,.int .i64)] []
def yedy (g:C_z16z) (n:Nat):LPT A:=fun ps=>match ps with | [.d (.str p1),.d (.int .i32 p2),.d (.int .i64 p3)]=>fun K=>z16z_L24 g n p1 p2 p3 (fun z0=>K .ret (mkSt 96 0 [(4,.d (.int .i64 z0))] [])) (K (.exit 2) (mkSt 96 0 [] [])) | _=>fun _=>none
def yjby:SSt:=mkSh 96 0 [(0,.str),(1,.str),(13,.int .i64)] []
def yd9y (g:C_z16z) (n:Nat):LPT A:=fun ps=>match ps with | [.d (.str p1),.d (.str p2),.d (.int .i64 p3)]=>fun K=>z16z_L31 g n p1 p2 p3 (fun z0=>K .ret (mkSt 96 0 [(4,.d (.int .i64 z0))] [])) (K (.exit 4) (mkSt 96 0 [] [])) | _=>fun _=>none
noncomputable def yl4y:Code:=(Tryz.f191.body).getD .skip
noncomputable def yhWy (g:C_z16z):Env A:=mkE [(172,yoOy g.z79z),(205,yoay g.z19z),(224,yffy g.strings_IndexRune),(225,yoLy g.z77z)] [] [(24,⟨[0,9,10],[],[],[],[],[],[]⟩),(31,⟨[0,1,13],[],[],[],[],[],[]⟩)] [(24,⟨[4],[],[],[],[],[],[]⟩),(31,⟨[4],[],[],[],[],[],[]⟩)] [(24,yafy yiZy (yedy g g.N)),(31,yafy yjby (yd9y g g.N))] [] [] [] [] []
theorem yCcy [Fuel]:yahy (yhWy ydYy).C:=ct_of (P:=Tryz.prog) (T:=T) (.cons yATy (.cons yBTy (.cons yfVy (.cons yBIy .nil)))) (by kernel_rfl)
noncomputable def yzOy:Code:=sub [1,1,1,0,1,0,1,1,0,0,1,0,0] yl4y
theorem yzSy [Fuel]:yacy (yhWy ydYy) NN yzOy:=yooy (by kernel_rfl)
noncomputable def ypXy:Code:=sub [1,1,1,1,0,1,0,1,1,0,1,0,0] yl4y
theorem yDGy (g:C_z16z) (n:Nat):yaky (yhWy g) g.N ypXy yiZy (yedy g) n:=by intro ps; unfold yedy; split; exact .inr fun R K=>(by kernel_rfl); exact .inl fun R K=>rfl
theorem yAmy [Fuel]:yacy (yhWy ydYy) NN ypXy:=yaey yiZy (yedy ydYy) (by kernel_rfl) yCcy (cuts0 (fun _=>rfl) (by kernel_rfl)) (fun ps R K=>by unfold yedy; split <;> (try unfold z16z_L24) <;> rfl) (yDGy ydYy)
noncomputable def ypzy:Code:=sub [1,1,1,1,1,0,1,0,0] yl4y
theorem yDIy (g:C_z16z) (n:Nat):yaky (yhWy g) g.N ypzy yjby (yd9y g) n:=by intro ps; unfold yd9y; split; exact .inr fun R K=>(by kernel_rfl); exact .inl fun R K=>rfl
theorem yAiy [Fuel]:yacy (yhWy ydYy) NN ypzy:=yaey yjby (yd9y ydYy) (by kernel_rfl) yCcy (cuts0 (fun _=>rfl) (by kernel_rfl)) (fun ps R K=>by unfold yd9y; split <;> (try unfold z16z_L31) <;> rfl) (yDIy ydYy)
theorem yI0y (g:C_z16z):Same (ykey (@z16z_ g)) (abody (yhWy g) Tryz.f191 yl4y 0 [] [.asis] g.N):=by intro args; unfold ykey; split; exact .inr fun R k=>(by kernel_rfl); exact .inl fun R k=>rfl
theorem yAHy [Fuel]:Ok 191 (ykey (@z16z _)):=yaay std (.cons yATy (.cons yBTy (.cons yfVy (.cons yBIy .nil)))) ⟨rfl,rfl,by kernel_rfl,rfl,rfl,rfl⟩ (yI0y ydYy) (cutsL (fun _=>rfl) (.cons yzSy (.cons yAmy (.cons yAiy .nil))) (by kernel_rfl)) Tryz.func191 (by kernel_rfl) (by kernel_rfl)
abbrev yrgy:Type 1:=Int→Int→Int→{R:Type}→(Bool→Option R)→Option R
def R_in_ (g:Nat) (a1 a2 a3:Int) {R:Type} (k0:Bool→Option R):Option R :=
 (bif (decide (a2≤a1)) then k0 (decide (a1≤a3)) else k0 false)
noncomputable def R_in [Fuel]:yrgy:=@R_in_ NN
def yj1y (g:yrgy):Spec A:=fun args=>match args with | [.d (.int .i64 a1),.d (.int .i64 a2),.d (.int .i64 a3)]=>fun k=>g a1 a2 a3 (fun z0=>k (.d (.bool z0)) [.undef,.undef,.undef]) | _=>fun _=>none
noncomputable def yGFy:Code:=(Tryz.f193.body).getD .skip
noncomputable def yOxy (g:Nat):Env A:=mkE [] [] [] [] [] [] [] [] [] []
theorem yK9y (g:Nat):Same (yj1y (@R_in_ g)) (abody (yOxy g) Tryz.f193 yGFy 0 [] [.asis] g):=by intro args; unfold yj1y; split; exact .inr fun R k=>(by kernel_rfl); exact .inl fun R k=>rfl
theorem yAsy [Fuel]:Ok 193 (yj1y (@R_in _)):=yaay std .nil ⟨rfl,rfl,by kernel_rfl,rfl,rfl,rfl⟩ (yK9y NN) (cuts0 (fun _=>rfl) (by kernel_rfl)) Tryz.func193 (by kernel_rfl) (by kernel_rfl)
abbrev ydIy:Type 1:=List UInt8→List UInt8→{R:Type}→(List UInt8→Option R)→Option R
def strings_Trim [Fuel]:ydIy:=@ysMy
def yf2y (g:ydIy):Spec A:=yh4y g
theorem yiSy [Fuel]:Ok 131 (yf2y (@strings_Trim _)):=⟨ys3y (yCQy rfl (fun s cs w h1 h2 h3=>Any.strings_Trim_laid Tryz.lays160 (by kernel_rfl) s cs w h1 h2 h3)),yyEy,yaOy (fn:=Tryz.f131) Tryz.func131 (by kernel_rfl) (by kernel_rfl)⟩
abbrev ybTy:Type 1:=List UInt8→List UInt8→{R:Type}→(Bool→Option R)→Option R
def strings_ContainsAny [Fuel]:ybTy:=@yrsy
def ycAy (g:ybTy):Spec A:=yixy g
theorem yd2y [Fuel]:Ok 194 (ycAy (@strings_ContainsAny _)):=⟨ytGy (yDMy rfl (fun s cs w h1 h2 h3 h4=>Any.strings_ContainsAny_laid Tryz.lays150 (by kernel_rfl) s cs w h1 h2 h3 h4)),yxoy,yaOy (fn:=Tryz.f194) Tryz.func194 (by kernel_rfl) (by kernel_rfl)⟩
abbrev yiUy:Type 1:=List UInt8→Int→Int→{R:Type}→(Bool→Option R)→Option R
structure C_R_plain where
 N:Nat
 strings_Trim:ydIy
 R_in:yrgy
 strings_ContainsAny:ybTy
def yw6y (g:C_R_plain) (a1:List UInt8) (a2 a3:Int) {R:Type} (k0:Bool→Option R):Option R :=
 (g.R_in (a1.length:Int) a2 a3 (fun r4=>(bif r4 then (g.strings_Trim a1 [97,98,99,100,101,102,103,104,105,106,107,108,109,110,111,112,113,114,115,116,117,118,119,120,121,122,48,49,50,51,52,53,54,55,56,57] (fun r5=>(bif (r5 == []) then (g.strings_ContainsAny a1 [97,98,99,100,101,102,103,104,105,106,107,108,109,110,111,112,113,114,115,116,117,118,119,120,121,122] (fun r6=>k0 r6)) else k0 false))) else k0 false)))
noncomputable def yufy [Fuel]:C_R_plain:=⟨NN,@strings_Trim _,@R_in _,@strings_ContainsAny _⟩
noncomputable def R_plain [Fuel]:yiUy:=@yw6y yufy
def yfPy (g:yiUy):Spec A:=fun args=>match args with | [.d (.str a1),.d (.int .i64 a2),.d (.int .i64 a3)]=>fun k=>g a1 a2 a3 (fun z0=>k (.d (.bool z0)) [.undef,.undef,.undef]) | _=>fun _=>none
noncomputable def yGjy:Code:=(Tryz.f192.body).getD .skip
noncomputable def yDUy (g:C_R_plain):Env A:=mkE [(131,yf2y g.strings_Trim),(193,yj1y g.R_in),(194,ycAy g.strings_ContainsAny)] [] [] [] [] [] [] [] [] []
theorem yCPy (g:C_R_plain):Same (yfPy (@yw6y g)) (abody (yDUy g) Tryz.f192 yGjy 0 [] [.asis] g.N):=by intro args; unfold yfPy; split; exact .inr fun R k=>(by kernel_rfl); exact .inl fun R k=>rfl
theorem ysay [Fuel]:Ok 192 (yfPy (@R_plain _)):=yaay std (.cons yiSy (.cons yAsy (.cons yd2y .nil))) ⟨rfl,rfl,by kernel_rfl,rfl,rfl,rfl⟩ (yCPy yufy) (cuts0 (fun _=>rfl) (by kernel_rfl)) Tryz.func192 (by kernel_rfl) (by kernel_rfl)
abbrev yhCy:Type 1:=List UInt8→{R:Type}→(Int→Option R)→Option R
structure C_R_baseAt where
 N:Nat
 z16z:yrny
 R_plain:yiUy
 R_in:yrgy
 strings_ContainsAny:ybTy
def yt2y (g:C_R_baseAt) (a1:List UInt8) {R:Type} (k0:Int→Option R):Option R :=
 (g.z16z a1 [48,49,50,51,52,53,54,55,56,57] (fun r2=>(g.R_plain a1 3 10 (fun r3=>(bif (!r3) then k0 (-1) else (g.R_in r2 1 3 (fun r4=>(bif (!r4) then k0 (-1) else (g.R_in (w64 ((w64 ((a1.length:Int) - 1)) - r2)) 1 4 (fun r5=>(bif (!r5) then k0 (-1) else (bif (decide (0≤r2) && decide (r2≤(a1.length:Int))) then (g.strings_ContainsAny (a1.take (r2:Int).toNat) [97,98,99,100,101,102,103,104,105,106,107,108,109,110,111,112,113,114,115,116,117,118,119,120,121,122] (fun r6=>(bif (!r6) then k0 (-1) else k0 r2))) else none))))))))))))
noncomputable def ysTy [Fuel]:C_R_baseAt:=⟨NN,@z16z _,@R_plain _,@R_in _,@strings_ContainsAny _⟩
noncomputable def R_baseAt [Fuel]:yhCy:=@yt2y ysTy
def yeay (g:yhCy):Spec A:=fun args=>match args with | [.d (.str a1)]=>fun k=>g a1 (fun z0=>k (.d (.int .i64 z0)) [.undef]) | _=>fun _=>none
noncomputable def yHwy:Code:=(Tryz.f156.body).getD .skip
noncomputable def yCky (g:C_R_baseAt):Env A:=mkE [(191,ykey g.z16z),(192,yfPy g.R_plain),(193,yj1y g.R_in),(194,ycAy g.strings_ContainsAny)] [] [] [] [] [] [] [] [] []
theorem yAdy (g:C_R_baseAt):Same (yeay (@yt2y g)) (abody (yCky g) Tryz.f156 yHwy 0 [] [.asis] g.N):=by intro args; unfold yeay; split; exact .inr fun R k=>(by kernel_rfl); exact .inl fun R k=>rfl
theorem ypEy [Fuel]:Ok 156 (yeay (@R_baseAt _)):=yaay std (.cons yAHy (.cons ysay (.cons yAsy (.cons yd2y .nil)))) ⟨rfl,rfl,by kernel_rfl,rfl,rfl,rfl⟩ (yAdy ysTy) (cuts0 (fun _=>rfl) (by kernel_rfl)) Tryz.func156 (by kernel_rfl) (by kernel_rfl)
abbrev ytIy:Type 1:=List UInt8→{R:Type}→(G_Parts→Option R)→Option R
structure C_z100z where
 N:Nat
 R_baseAt:yhCy
def z100z_ (g:C_z100z) (a1:List UInt8) {R:Type} (k0:G_Parts→Option R):Option R :=
 (g.R_baseAt a1 (fun r2=>(bif (decide (0≤(w64 (r2 + 1))) && decide ((w64 (r2 + 1))≤(a1.length:Int))) then (bif (decide (0≤(w64 (r2 + 1))) && decide ((w64 (r2 + 1))≤(a1.length:Int))) then k0 (⟨a1,(a1.take ((w64 (r2 + 1)):Int).toNat),(a1.drop ((w64 (r2 + 1)):Int).toNat),0,[]⟩:G_Parts) else none) else none)))
noncomputable def yBDy [Fuel]:C_z100z:=⟨NN,@R_baseAt _⟩
noncomputable def z100z [Fuel]:ytIy:=@z100z_ yBDy
def ylDy (g:ytIy):Spec A:=fun args=>match args with | [.d (.str a1)]=>fun k=>g a1 (fun z0=>k (.agg [.d (.str z0.f_Base),.d (.str z0.f_Prefix),.d (.str z0.f_Suffix),.d (.int .i64 z0.f_Kind),.d (.str z0.f_Added)]) [.undef]) | _=>fun _=>none
noncomputable def yGyy:Code:=(Tryz.f155.body).getD .skip
noncomputable def yNay (g:C_z100z):Env A:=mkE [(156,yeay g.R_baseAt)] [(2,[0])] [] [] [] [] [] [] [] []
theorem yHky (g:C_z100z):Same (ylDy (@z100z_ g)) (abody (yNay g) Tryz.f155 yGyy 1 [] [.asis] g.N):=by intro args; unfold ylDy; split; exact .inr fun R k=>(by kernel_rfl); exact .inl fun R k=>rfl
theorem yH2y [Fuel]:Ok 155 (ylDy (@z100z _)):=yaay std (.cons ypEy .nil) ⟨rfl,rfl,by kernel_rfl,rfl,rfl,rfl⟩ (yHky yBDy) (cuts0 (fun _=>rfl) (by kernel_rfl)) Tryz.func155 (by kernel_rfl) (by kernel_rfl)
abbrev ymKy:Type 1:=List UInt8→{R:Type}→(Bool→Option R)→Option R
structure C_R_begin where
 N:Nat
 R_plain:yiUy
def yvUy (g:C_R_begin) (a1:List UInt8) {R:Type} (k0:Bool→Option R):Option R :=
 (g.R_plain a1 1 4 (fun r2=>k0 r2))
noncomputable def yt0y [Fuel]:C_R_begin:=⟨NN,@R_plain _⟩
noncomputable def R_begin [Fuel]:ymKy:=@yvUy yt0y
def yhGy (g:ymKy):Spec A:=fun args=>match args with | [.d (.str a1)]=>fun k=>g a1 (fun z0=>k (.d (.bool z0)) [.undef]) | _=>fun _=>none
noncomputable def yHsy:Code:=(Tryz.f157.body).getD .skip
noncomputable def yEuy (g:C_R_begin):Env A:=mkE [(192,yfPy g.R_plain)] [] [] [] [] [] [] [] [] []
theorem yCNy (g:C_R_begin):Same (yhGy (@yvUy g)) (abody (yEuy g) Tryz.f157 yHsy 0 [] [.asis] g.N):=by intro args; unfold yhGy; split; exact .inr fun R k=>(by kernel_rfl); exact .inl fun R k=>rfl
theorem yDLy [Fuel]:Ok 157 (yhGy (@R_begin _)):=yaay std (.cons ysay .nil) ⟨rfl,rfl,by kernel_rfl,rfl,rfl,rfl⟩ (yCNy yt0y) (cuts0 (fun _=>rfl) (by kernel_rfl)) Tryz.func157 (by kernel_rfl) (by kernel_rfl)
abbrev yfDy:Type 1:=List UInt8→List UInt8→{R:Type}→(Int→Option R)→Option R
structure C_strings_Index where
 N:Nat
 stringslite_Index:ycfy
def ykfy (g:C_strings_Index) (a1 a2:List UInt8) {R:Type} (k0:Int→Option R):Option R :=
 (g.stringslite_Index a1 a2 (fun r3=>k0 r3))
noncomputable def yiJy [Fuel]:C_strings_Index:=⟨NN,@stringslite_Index _⟩
noncomputable def strings_Index [Fuel]:yfDy:=@ykfy yiJy
def ycWy (g:yfDy):Spec A:=fun args=>match args with | [.d (.str a1),.d (.str a2)]=>fun k=>g a1 a2 (fun z0=>k (.d (.int .i64 z0)) [.undef,.undef]) | _=>fun _=>none
noncomputable def yG9y:Code:=(Tryz.f195.body).getD .skip
noncomputable def ysqy (g:C_strings_Index):Env A:=mkE [(198,yc4y g.stringslite_Index)] [] [] [] [] [] [] [] [] []
theorem yqxy (g:C_strings_Index):Same (ycWy (@ykfy g)) (abody (ysqy g) Tryz.f195 yG9y 0 [] [.asis] g.N):=by intro args; unfold ycWy; split; exact .inr fun R k=>(by kernel_rfl); exact .inl fun R k=>rfl
theorem yqly [Fuel]:Ok 195 (ycWy (@strings_Index _)):=yaay std (.cons yfry .nil) ⟨rfl,rfl,by kernel_rfl,rfl,rfl,rfl⟩ (yqxy yiJy) (cuts0 (fun _=>rfl) (by kernel_rfl)) Tryz.func195 (by kernel_rfl) (by kernel_rfl)
abbrev ydxy:Type 1:=List UInt8→List UInt8→{R:Type}→(Bool→Option R)→Option R
structure C_strings_Contains where
 N:Nat
 strings_Index:yfDy
def yhxy (g:C_strings_Contains) (a1 a2:List UInt8) {R:Type} (k0:Bool→Option R):Option R :=
 (g.strings_Index a1 a2 (fun r3=>k0 (decide (r3 ≥ 0))))
noncomputable def yhiy [Fuel]:C_strings_Contains:=⟨NN,@strings_Index _⟩
noncomputable def strings_Contains [Fuel]:ydxy:=@yhxy yhiy
def ycgy (g:ydxy):Spec A:=fun args=>match args with | [.d (.str a1),.d (.str a2)]=>fun k=>g a1 a2 (fun z0=>k (.d (.bool z0)) [.undef,.undef]) | _=>fun _=>none
noncomputable def yHny:Code:=(Tryz.f158.body).getD .skip
noncomputable def ymVy (g:C_strings_Contains):Env A:=mkE [(195,ycWy g.strings_Index)] [] [] [] [] [] [] [] [] []
theorem ymwy (g:C_strings_Contains):Same (ycgy (@yhxy g)) (abody (ymVy g) Tryz.f158 yHny 0 [] [.asis] g.N):=by intro args; unfold ycgy; split; exact .inr fun R k=>(by kernel_rfl); exact .inl fun R k=>rfl
theorem ymvy [Fuel]:Ok 158 (ycgy (@strings_Contains _)):=yaay std (.cons yqly .nil) ⟨rfl,rfl,by kernel_rfl,rfl,rfl,rfl⟩ (ymwy yhiy) (cuts0 (fun _=>rfl) (by kernel_rfl)) Tryz.func158 (by kernel_rfl) (by kernel_rfl)
abbrev yjvy:Type 1:=List UInt8→{R:Type}→(G_Parts→Bool→Option R)→Option R
structure C_R_PartsOf where
 N:Nat
 z98z:yr0y
 z100z:ytIy
 R_baseAt:yhCy
 R_begin:ymKy
 strings_Contains:ydxy
def yrwy (g:C_R_PartsOf) (a1:List UInt8) {R:Type} (k0:G_Parts→Bool→Option R):Option R :=
 (g.z98z a1 [47] (fun r2 r3 r4=>(bif (decide ((a1.length:Int) > 14)) then k0 (⟨[],[],[],0,[]⟩:G_Parts) false else (bif (!r4) then (g.R_baseAt r2 (fun r5=>(bif (decide (r5 < 0)) then k0 (⟨[],[],[],0,[]⟩:G_Parts) false else (g.z100z r2 (fun r6=>k0 r6 true))))) else (g.R_baseAt r3 (fun r7=>(bif (decide (r7 ≥ 0)) then (g.R_begin r2 (fun r8=>(bif r8 then (g.z100z r3 (fun r9=>k0 (⟨r9.f_Base,r9.f_Prefix,r9.f_Suffix,1,r2⟩:G_Parts) true)) else (g.R_baseAt r2 (fun r10=>(bif (decide (r10 < 0)) then k0 (⟨[],[],[],0,[]⟩:G_Parts) false else (g.z100z r2 (fun r11=>(bif (r3 == [112]) then k0 (⟨r11.f_Base,r11.f_Prefix,r11.f_Suffix,3,r11.f_Added⟩:G_Parts) true else (bif (r3 == [109]) then k0 (⟨r11.f_Base,r11.f_Prefix,r11.f_Suffix,4,r11.f_Added⟩:G_Parts) true else (bif (r3 == [109,109]) then k0 (⟨r11.f_Base,r11.f_Prefix,r11.f_Suffix,5,r11.f_Added⟩:G_Parts) true else (bif (r3 == [97,109]) then k0 (⟨r11.f_Base,r11.f_Prefix,r11.f_Suffix,6,r11.f_Added⟩:G_Parts) true else (bif ((r3.length:Int) == 1) then (g.strings_Contains [48,49,50,51,52,53,54,55,56,57] r3 (fun r12=>(bif r12 then k0 (⟨r11.f_Base,r11.f_Prefix,r11.f_Suffix,2,r3⟩:G_Parts) true else (g.R_begin r3 (fun r13=>(bif r13 then k0 (⟨r11.f_Base,r11.f_Prefix,r11.f_Suffix,1,r3⟩:G_Parts) true else k0 (⟨[],[],[],0,[]⟩:G_Parts) false)))))) else (g.R_begin r3 (fun r14=>(bif r14 then k0 (⟨r11.f_Base,r11.f_Prefix,r11.f_Suffix,1,r3⟩:G_Parts) true else k0 (⟨[],[],[],0,[]⟩:G_Parts) false)))))))))))))))) else (g.R_baseAt r2 (fun r15=>(bif (decide (r15 < 0)) then k0 (⟨[],[],[],0,[]⟩:G_Parts) false else (g.z100z r2 (fun r16=>(bif (r3 == [112]) then k0 (⟨r16.f_Base,r16.f_Prefix,r16.f_Suffix,3,r16.f_Added⟩:G_Parts) true else (bif (r3 == [109]) then k0 (⟨r16.f_Base,r16.f_Prefix,r16.f_Suffix,4,r16.f_Added⟩:G_Parts) true else (bif (r3 == [109,109]) then k0 (⟨r16.f_Base,r16.f_Prefix,r16.f_Suffix,5,r16.f_Added⟩:G_Parts) true else (bif (r3 == [97,109]) then k0 (⟨r16.f_Base,r16.f_Prefix,r16.f_Suffix,6,r16.f_Added⟩:G_Parts) true else (bif ((r3.length:Int) == 1) then (g.strings_Contains [48,49,50,51,52,53,54,55,56,57] r3 (fun r17=>(bif r17 then k0 (⟨r16.f_Base,r16.f_Prefix,r16.f_Suffix,2,r3⟩:G_Parts) true else (g.R_begin r3 (fun r18=>(bif r18 then k0 (⟨r16.f_Base,r16.f_Prefix,r16.f_Suffix,1,r3⟩:G_Parts) true else k0 (⟨[],[],[],0,[]⟩:G_Parts) false)))))) else (g.R_begin r3 (fun r19=>(bif r19 then k0 (⟨r16.f_Base,r16.f_Prefix,r16.f_Suffix,1,r3⟩:G_Parts) true else k0 (⟨[],[],[],0,[]⟩:G_Parts) false))))))))))))))))))))
noncomputable def ypIy [Fuel]:C_R_PartsOf:=⟨NN,@z98z _,@z100z _,@R_baseAt _,@R_begin _,@strings_Contains _⟩
noncomputable def R_PartsOf [Fuel]:yjvy:=@yrwy ypIy
def yfsy (g:yjvy):Spec A:=fun args=>match args with | [.d (.str a1)]=>fun k=>g a1 (fun z0 z1=>k (.tup [.agg [.d (.str z0.f_Base),.d (.str z0.f_Prefix),.d (.str z0.f_Suffix),.d (.int .i64 z0.f_Kind),.d (.str z0.f_Added)],.d (.bool z1)]) [.undef]) | _=>fun _=>none
noncomputable def yGiy:Code:=(Tryz.f113.body).getD .skip
noncomputable def yzwy (g:C_R_PartsOf):Env A:=mkE [(124,ykay g.z98z),(155,ylDy g.z100z),(156,yeay g.R_baseAt),(157,yhGy g.R_begin),(158,ycgy g.strings_Contains)] [(2,[0]),(8,[1]),(9,[2])] [] [] [] [] [] [] [] []
theorem yxMy (g:C_R_PartsOf):Same (yfsy (@yrwy g)) (abody (yzwy g) Tryz.f113 yGiy 3 [] [.asis,.asis] g.N):=by intro args; unfold yfsy; split; exact .inr fun R k=>(by kernel_rfl); exact .inl fun R k=>rfl
theorem yvKy [Fuel]:Ok 113 (yfsy (@R_PartsOf _)):=yaay std (.cons yBmy (.cons yH2y (.cons ypEy (.cons yDLy (.cons ymvy .nil))))) ⟨rfl,rfl,by kernel_rfl,rfl,rfl,rfl⟩ (yxMy ypIy) (cuts0 (fun _=>rfl) (by kernel_rfl)) Tryz.func113 (by kernel_rfl) (by kernel_rfl)
abbrev yp2y:Type 1:=List UInt8→{R:Type}→(Bool→Option R)→Option R
structure C_Q_Call where
 N:Nat
 R_PartsOf:yjvy
def yBZy (g:C_Q_Call) (a1:List UInt8) {R:Type} (k0:Bool→Option R):Option R :=
 (g.R_PartsOf a1 (fun r2 r3=>k0 r3))
noncomputable def yw2y [Fuel]:C_Q_Call:=⟨NN,@R_PartsOf _⟩
noncomputable def Q_Call [Fuel]:yp2y:=@yBZy yw2y
def yiIy (g:yp2y):Spec A:=fun args=>match args with | [.d (.str a1)]=>fun k=>g a1 (fun z0=>k (.d (.bool z0)) [.undef]) | _=>fun _=>none
noncomputable def yLXy:Code:=(Tryz.f63.body).getD .skip
noncomputable def yIny (g:C_Q_Call):Env A:=mkE [(113,yfsy g.R_PartsOf)] [(3,[0])] [] [] [] [] [] [] [] []
theorem yFRy (g:C_Q_Call):Same (yiIy (@yBZy g)) (abody (yIny g) Tryz.f63 yLXy 1 [] [.asis] g.N):=by intro args; unfold yiIy; split; exact .inr fun R k=>(by kernel_rfl); exact .inl fun R k=>rfl
theorem ymEy [Fuel]:Ok 63 (yiIy (@Q_Call _)):=yaay std (.cons yvKy .nil) ⟨rfl,rfl,by kernel_rfl,rfl,rfl,rfl⟩ (yFRy yw2y) (cuts0 (fun _=>rfl) (by kernel_rfl)) Tryz.func63 (by kernel_rfl) (by kernel_rfl)
abbrev yw9y:Type 1:=List G_Spot→{R:Type}→(Int→Option R)→Option R
structure C_z54z where
 N:Nat
 z10z:yr3y
 Q_Moment:yk2y
 Q_in:yrDy
 Q_Call:yp2y
def z54z_L4 (g:C_z54z):Nat→List G_Spot→List G_Spot→Int→Int→{R:Type}→(Int→Option R)→Option R→Option R
 | 0,_,_,_,_,_,_,_=>none
 | n + 1,v2,v3,v4,v5,_,e0,e1=>(bif (decide (v5 < v4)) then (get_ v3 v5 fun x13=>(g.Q_Moment x13.f_At (fun r14=>(bif (!r14) then e0 1 else (g.Q_in x13.f_Hertz 0 30000000000 (fun r15=>(bif (!r15) then e0 1 else (g.Q_Call x13.f_Call (fun r16=>(bif (!r16) then e0 3 else (g.Q_Call x13.f_By (fun r17=>(bif (!r17) then e0 3 else (bif (decide (v5 > 0)) then (get_ v2 (w64 (v5 - 1)) fun x18=>(g.z10z x18 x13 (fun r19=>(bif (decide (r19 ≥ 0)) then e0 7 else z54z_L4 g n v2 v3 v4 (w64 (v5 + 1)) e0 e1)))) else z54z_L4 g n v2 v3 v4 (w64 (v5 + 1)) e0 e1)))))))))))))) else e1)
def z54z_ (g:C_z54z) (a1:List G_Spot) {R:Type} (k0:Int→Option R):Option R :=
 (bif (decide ((a1.length:Int) > 2000)) then k0 2 else (z54z_L4 g g.N a1 a1 (a1.length:Int) 0 (fun e20=>k0 e20) (k0 0)))
noncomputable def yc9y [Fuel]:C_z54z:=⟨NN,@z10z _,@Q_Moment _,@Q_in _,@Q_Call _⟩
noncomputable def z54z [Fuel]:yw9y:=@z54z_ yc9y
def ynRy (g:yw9y):Spec A:=fun args=>match args with | [.d (.sl 42 a1)]=>fun k=>g a1 (fun z0=>k (.d (.int .i64 z0)) [.undef]) | _=>fun _=>none
def yk7y:SSt:=mkSh 51 1 [(0,.sl 42),(8,.sl 42),(9,.int .i64),(10,.int .i64)] []
def ye7y (g:C_z54z) (n:Nat):LPT A:=fun ps=>match ps with | [.d (.sl 42 p1),.d (.sl 42 p2),.d (.int .i64 p3),.d (.int .i64 p4)]=>fun K=>z54z_L4 g n p1 p2 p3 p4 (fun z0=>K .ret (mkSt 51 1 [(2,.d (.int .i64 z0))] [])) (K (.exit 0) (mkSt 51 1 [] [])) | _=>fun _=>none
noncomputable def yAzy:Code:=(Tryz.f27.body).getD .skip
noncomputable def yszy (g:C_z54z):Env A:=mkE [(59,ykcy g.z10z),(61,ygEy g.Q_Moment),(62,yj0y g.Q_in),(63,yiIy g.Q_Call)] [(4,[0])] [(4,⟨[0,8,9,10],[],[],[],[],[],[]⟩)] [(4,⟨[2],[],[],[],[],[],[]⟩)] [(4,yafy yk7y (ye7y g g.N))] [] [] [] [] []
theorem yJdy [Fuel]:yahy (yszy yc9y).C:=ct_of (P:=Tryz.prog) (T:=T) (.cons yoVy (.cons ypey (.cons ys2y (.cons ymEy .nil)))) (by kernel_rfl)
noncomputable def ysEy:Code:=sub [1,1,0,1,0,0] yAzy
theorem yDTy (g:C_z54z) (n:Nat):yaky (yszy g) g.N ysEy yk7y (ye7y g) n:=by intro ps; unfold ye7y; split; exact .inr fun R K=>(by kernel_rfl); exact .inl fun R K=>rfl
theorem yCYy [Fuel]:yacy (yszy yc9y) NN ysEy:=yaey yk7y (ye7y yc9y) (by kernel_rfl) yJdy (cuts0 (fun _=>rfl) (by kernel_rfl)) (fun ps R K=>by unfold ye7y; split <;> (try unfold z54z_L4) <;> rfl) (yDTy yc9y)
theorem yKny (g:C_z54z):Same (ynRy (@z54z_ g)) (abody (yszy g) Tryz.f27 yAzy 1 [] [.asis] g.N):=by intro args; unfold ynRy; split; exact .inr fun R k=>(by kernel_rfl); exact .inl fun R k=>rfl
theorem yBCy [Fuel]:Ok 27 (ynRy (@z54z _)):=yaay std (.cons yoVy (.cons ypey (.cons ys2y (.cons ymEy .nil)))) ⟨rfl,rfl,by kernel_rfl,rfl,rfl,rfl⟩ (yKny yc9y) (cutsL (fun _=>rfl) (.cons yCYy .nil) (by kernel_rfl)) Tryz.func27 (by kernel_rfl) (by kernel_rfl)
abbrev yxly:Type 1:=G_Stream→Int→{R:Type}→(List G_Spot→G_Stream→Option R)→Option R
structure C_z32z where
 N:Nat
 z52z:yvQy
 z54z:yw9y
def z32z_L2 (g:C_z32z):Nat→Int→Int→G_Stream→{R:Type}→(G_Stream→List G_Spot→Option R)→(G_Stream→Option R)→Option R
 | 0,_,_,_,_,_,_=>none
 | n + 1,v3,v4,v5,_,e0,e1=>(bif (decide (v4 < 5)) then (g.z52z v5 v3 (fun r9 r10=>(g.z54z r9 (fun r11=>(bif (r11 == 0) then e0 r10 r9 else z32z_L2 g n v3 (w64 (v4 + 1)) r10 e0 e1))))) else e1 v5)
def z32z_ (g:C_z32z) (a1:G_Stream) (a2:Int) {R:Type} (k0:List G_Spot→G_Stream→Option R):Option R :=
 (z32z_L2 g g.N a2 0 a1 (fun e12 e13=>k0 e13 e12) (fun e14=>k0 [] e14))
noncomputable def yc6y [Fuel]:C_z32z:=⟨NN,@z52z _,@z54z _⟩
noncomputable def z32z [Fuel]:yxly:=@z32z_ yc6y
def ynZy (g:yxly):Spec A:=fun args=>match args with | [.box [.d (.sl 3 a1),.d (.int .i64 a2)],.d (.int .i64 a3)]=>fun k=>g ⟨a1,a2⟩ a3 (fun z0 z1=>k (.arr 42 z0) [.box [.d (.sl 3 z1.f_L),.d (.int .i64 z1.f_at)],.undef]) | _=>fun _=>none
def ykGy:SSt:=mkSh 16 2 [(0,.ptr 0 0),(1,.int .i64),(6,.int .i64)] [(0,.box [.sl 3,.int .i64])]
def yfwy (g:C_z32z) (n:Nat):LPT A:=fun ps=>match ps with | [.d (.int .i64 p1),.d (.int .i64 p2),.d (.sl 3 p3),.d (.int .i64 p4)]=>fun K=>z32z_L2 g n p1 p2 ⟨p3,p4⟩ (fun z0 z1=>K .ret (mkSt 16 2 [(0,.ptr 0 0),(4,.own 42 1)] [(0,some (.box [.d (.sl 3 z0.f_L),.d (.int .i64 z0.f_at)])),(1,some (.row 42 z1))])) (fun z0=>K (.exit 0) (mkSt 16 2 [(0,.ptr 0 0)] [(0,some (.box [.d (.sl 3 z0.f_L),.d (.int .i64 z0.f_at)]))])) | _=>fun _=>none
noncomputable def yD8y:Code:=(Tryz.f6.body).getD .skip
noncomputable def ysuy (g:C_z32z):Env A:=mkE [(26,ynTy g.z52z),(27,ynRy g.z54z)] [(10,[1])] [(2,⟨[0,1,6],[],[0],[],[],[],[]⟩)] [(2,⟨[0,4],[],[0,1],[],[],[],[]⟩)] [(2,yafy ykGy (yfwy g g.N))] [] [] [] [] [0]
theorem yLIy [Fuel]:yahy (ysuy yc6y).C:=ct_of (P:=Tryz.prog) (T:=T) (.cons yBMy (.cons yBCy .nil)) (by kernel_rfl)
noncomputable def yrUy:Code:=sub [1,0,1,0,0] yD8y
theorem yEhy (g:C_z32z) (n:Nat):yaky (ysuy g) g.N yrUy ykGy (yfwy g) n:=by intro ps; unfold yfwy; split; exact .inr fun R K=>(by kernel_rfl); exact .inl fun R K=>rfl
theorem yDry [Fuel]:yacy (ysuy yc6y) NN yrUy:=yaey ykGy (yfwy yc6y) (by kernel_rfl) yLIy (cuts0 (fun _=>rfl) (by kernel_rfl)) (fun ps R K=>by unfold yfwy; split <;> (try unfold z32z_L2) <;> rfl) (yEhy yc6y)
theorem yMdy (g:C_z32z):Same (ynZy (@z32z_ g)) (abody (ysuy g) Tryz.f6 yD8y 2 [0] [.arr 42] g.N):=by intro args; unfold ynZy; split; exact .inr fun R k=>(by kernel_rfl); exact .inl fun R k=>rfl
theorem yB8y [Fuel]:Ok 6 (ynZy (@z32z _)):=yaay std (.cons yBMy (.cons yBCy .nil)) ⟨rfl,rfl,by kernel_rfl,rfl,rfl,rfl⟩ (yMdy yc6y) (cutsL (fun _=>rfl) (.cons yDry .nil) (by kernel_rfl)) Tryz.func6 (by kernel_rfl) (by kernel_rfl)
end Go.Am
