/- The functions of the program as Lean functions, each shown to be what the code computes, part 3. No condition: lemmas for the claim. -/
import Derived.Test.YtphcgliehecbkaaGreatDoorF0
import Derived.Test.YtphcgliehecbkaaGreatDoorFSh
import Derived.Test.YtphcgliehecbkaaGreatDoorF2
set_option linter.unusedVariables false
set_option maxRecDepth 100000
namespace Go.Am
open Go Go.Proofs
abbrev yvjy:Type 1:=List UInt8→{R:Type}→(Int→Int→Option R)→Option R
def z63z_ (g:Nat) (a1:List UInt8) {R:Type} (k0:Int→Int→Option R):Option R :=
 (bif (decide ((a1.length:Int) < 1)) then k0 65533 0 else (at_ a1 0 fun x2=>none))
noncomputable def z63z [Fuel]:yvjy:=@z63z_ NN
def ylYy (g:yvjy):Spec A:=fun args=>match args with | [.d (.str a1)]=>fun k=>g a1 (fun z0 z1=>k (.tup [.d (.int .i32 z0),.d (.int .i64 z1)]) [.undef]) | _=>fun _=>none
noncomputable def yDby:Code:=(Tryz.f204.body).getD .skip
noncomputable def yIly (g:Nat):Env A:=mkE [] [] [] [] [] [] [] [] [] []
theorem yG3y (g:Nat):Same (ylYy (@z63z_ g)) (abody (yIly g) Tryz.f204 yDby 0 [] [.asis,.asis] g):=by intro args; unfold ylYy; split; exact .inr fun R k=>(by kernel_rfl); exact .inl fun R k=>rfl
theorem yEpy [Fuel]:Ok 204 (ylYy (@z63z _)):=yacy std .nil ⟨rfl,rfl,by kernel_rfl,rfl,rfl,rfl⟩ (yG3y NN) (cuts0 (fun _=>rfl) (by kernel_rfl)) Tryz.func204 (by kernel_rfl) (by kernel_rfl)
abbrev ysDy:Type 1:=List UInt8→{R:Type}→(Int→Int→Option R)→Option R
structure C_z54z where
 N:Nat
 z63z:yvjy
def z54z_ (g:C_z54z) (a1:List UInt8) {R:Type} (k0:Int→Int→Option R):Option R :=
 (bif (!(a1 == [])) then (at_ a1 0 fun x2=>(bif (decide ((x2.toNat:Int) < 128)) then (at_ a1 0 fun x3=>k0 (IntKind.i32.wrap (x3.toNat:Int)) 1) else (g.z63z a1 (fun r4 r5=>k0 r4 r5)))) else (g.z63z a1 (fun r6 r7=>k0 r6 r7)))
noncomputable def yAUy [Fuel]:C_z54z:=⟨NN,@z63z _⟩
noncomputable def z54z [Fuel]:ysDy:=@z54z_ yAUy
def ylUy (g:ysDy):Spec A:=fun args=>match args with | [.d (.str a1)]=>fun k=>g a1 (fun z0 z1=>k (.tup [.d (.int .i32 z0),.d (.int .i64 z1)]) [.undef]) | _=>fun _=>none
noncomputable def yCQy:Code:=(Tryz.f171.body).getD .skip
noncomputable def yIby (g:C_z54z):Env A:=mkE [(204,ylYy g.z63z)] [] [] [] [] [] [] [] [] []
theorem yDVy (g:C_z54z):Same (ylUy (@z54z_ g)) (abody (yIby g) Tryz.f171 yCQy 0 [] [.asis,.asis] g.N):=by intro args; unfold ylUy; split; exact .inr fun R k=>(by kernel_rfl); exact .inl fun R k=>rfl
theorem yx2y [Fuel]:Ok 171 (ylUy (@z54z _)):=yacy std (.cons yEpy .nil) ⟨rfl,rfl,by kernel_rfl,rfl,rfl,rfl⟩ (yDVy yAUy) (cuts0 (fun _=>rfl) (by kernel_rfl)) Tryz.func171 (by kernel_rfl) (by kernel_rfl)
abbrev ytry:Type 1:=List UInt8→{R:Type}→(Int→Int→Option R)→Option R
structure C_z13z where
 N:Nat
 z54z:ysDy
 z87z:ysGy
def z13z_L10 (g:C_z13z):Nat→List UInt8→Int→Int→Int→{R:Type}→(List UInt8→Int→Int→Option R)→Option R
 | 0,_,_,_,_,_,_=>none
 | n + 1,v3,v4,v5,v6,_,e0=>(bif (decide (v5 ≥ v6)) then (get_ v3 v5 fun x8=>(g.z87z (x8.toNat:Int))) else e0 v3 v4 v5)
def z13z_ (g:C_z13z) (a1:List UInt8) {R:Type} (k0:Int→Int→Option R):Option R :=
 (bif ((a1.length:Int) == 0) then k0 65533 0 else (get_ a1 (w64 ((a1.length:Int) - 1)) fun x2=>(bif (decide ((IntKind.i32.wrap (x2.toNat:Int)) < 128)) then k0 (IntKind.i32.wrap (x2.toNat:Int)) 1 else (z13z_L10 g g.N a1 (a1.length:Int) (w64 ((w64 ((a1.length:Int) - 1)) - 1)) (if 0 > (w64 ((a1.length:Int) - 4)) then 0 else (w64 ((a1.length:Int) - 4))) (fun e9 e10 e11=>(bif (decide (e11 < 0)) then (bif (decide (0≤0) && (decide (0≤e10) && decide (e10≤(e9.length:Int)))) then (g.z54z ((e9.take (e10:Int).toNat).drop (0:Int).toNat) (fun r12 r13=>(bif ((w64 (0 + r13)) != e10) then k0 65533 1 else k0 r12 r13))) else none) else (bif (decide (0≤e11) && (decide (e11≤e10) && decide (e10≤(e9.length:Int)))) then (g.z54z ((e9.take (e10:Int).toNat).drop (e11:Int).toNat) (fun r14 r15=>(bif ((w64 (e11 + r15)) != e10) then k0 65533 1 else k0 r14 r15))) else none)))))))
noncomputable def yiMy [Fuel]:C_z13z:=⟨NN,@z54z _,@z87z _⟩
noncomputable def z13z [Fuel]:ytry:=@z13z_ yiMy
def ymJy (g:ytry):Spec A:=fun args=>match args with | [.d (.str a1)]=>fun k=>g a1 (fun z0 z1=>k (.tup [.d (.int .i32 z0),.d (.int .i64 z1)]) [.undef]) | _=>fun _=>none
def yh2y:SSt:=mkSh 51 0 [(0,.str),(4,.int .i64),(5,.int .i64),(6,.int .i64)] []
def ydwy (g:C_z13z) (n:Nat):LPT A:=fun ps=>match ps with | [.d (.str p1),.d (.int .i64 p2),.d (.int .i64 p3),.d (.int .i64 p4)]=>fun K=>z13z_L10 g n p1 p2 p3 p4 (fun z0 z1 z2=>K (.exit 0) (mkSt 51 0 [(0,.d (.str z0)),(4,.d (.int .i64 z1)),(5,.d (.int .i64 z2))] [])) | _=>fun _=>none
noncomputable def yvfy:Code:=(Tryz.f173.body).getD .skip
noncomputable def yo4y (g:C_z13z):Env A:=mkE [(171,ylUy g.z54z),(206,ylQy g.z87z)] [] [(10,⟨[0,4,5,6],[],[],[],[],[],[]⟩)] [(10,⟨[0,4,5],[],[],[],[],[],[]⟩)] [(10,yaiy yh2y (ydwy g g.N))] [] [] [] [] []
theorem yEHy [Fuel]:yajy (yo4y yiMy).C:=ct_of (P:=Tryz.prog) (T:=T) (.cons yx2y (.cons ywYy .nil)) (by kernel_rfl)
noncomputable def ynwy:Code:=sub [1,1,1,1,1,1,1,0,1,0,0] yvfy
theorem yzsy (g:C_z13z) (n:Nat):yamy (yo4y g) g.N ynwy yh2y (ydwy g) n:=by intro ps; unfold ydwy; split; exact .inr fun R K=>(by kernel_rfl); exact .inl fun R K=>rfl
theorem ywmy [Fuel]:yagy (yo4y yiMy) NN ynwy:=yaky yh2y (ydwy yiMy) (by kernel_rfl) yEHy (cuts0 (fun _=>rfl) (by kernel_rfl)) (fun ps R K=>by unfold ydwy; split <;> (try unfold z13z_L10) <;> rfl) (yzsy yiMy)
theorem yGty (g:C_z13z):Same (ymJy (@z13z_ g)) (abody (yo4y g) Tryz.f173 yvfy 0 [] [.asis,.asis] g.N):=by intro args; unfold ymJy; split; exact .inr fun R k=>(by kernel_rfl); exact .inl fun R k=>rfl
theorem yxBy [Fuel]:Ok 173 (ymJy (@z13z _)):=yacy std (.cons yx2y (.cons ywYy .nil)) ⟨rfl,rfl,by kernel_rfl,rfl,rfl,rfl⟩ (yGty yiMy) (cutsL (fun _=>rfl) (.cons ywmy .nil) (by kernel_rfl)) Tryz.func173 (by kernel_rfl) (by kernel_rfl)
abbrev T_z8z:Type 1:=List UInt8→List UInt8→{R:Type}→(Int→Option R)→Option R
structure C_z8z where
 N:Nat
 z68z:ytCy
 z13z:ytry
 strings_IndexRune:ycOy
 z66z:ytyy
def z8z_L24 (g:C_z8z):Nat→List UInt8→Int→Int→{R:Type}→(Int→Option R)→Option R→Option R
 | 0,_,_,_,_,_,_=>none
 | n + 1,v8,v9,v10,_,e0,e1=>(bif (decide (v10 > 0)) then (bif (decide (0≤v10) && decide (v10≤(v8.length:Int))) then (g.z13z (v8.take (v10:Int).toNat) (fun r13 r14=>(bif (v9 == r13) then e0 (w64 (v10 - r14)) else z8z_L24 g n v8 v9 (w64 (v10 - r14)) e0 e1))) else none) else e1)
def z8z_L31 (g:C_z8z):Nat→List UInt8→List UInt8→Int→{R:Type}→(Int→Option R)→Option R→Option R
 | 0,_,_,_,_,_,_=>none
 | n + 1,v17,v18,v19,_,e0,e1=>(bif (decide (v19 > 0)) then (bif (decide (0≤v19) && decide (v19≤(v17.length:Int))) then (g.z13z (v17.take (v19:Int).toNat) (fun r23 r24=>(g.strings_IndexRune v18 r23 (fun r25=>(bif (decide (r25 ≥ 0)) then e0 (w64 (v19 - r24)) else z8z_L31 g n v17 v18 (w64 (v19 - r24)) e0 e1))))) else none) else e1)
def z8z_ (g:C_z8z) (a1 a2:List UInt8) {R:Type} (k0:Int→Option R):Option R :=
 (bif (a2 == []) then k0 (-1) else (bif ((a1.length:Int) == 1) then (at_ a1 0 fun x3=>(bif (decide ((IntKind.i32.wrap (x3.toNat:Int)) ≥ 128)) then (g.strings_IndexRune a2 65533 (fun r4=>(bif (decide (r4 ≥ 0)) then k0 0 else k0 (-1)))) else (g.strings_IndexRune a2 (IntKind.i32.wrap (x3.toNat:Int)) (fun r5=>(bif (decide (r5 ≥ 0)) then k0 0 else k0 (-1)))))) else (g.z66z (a1.length:Int) (fun r6=>(bif r6 then (g.z68z a2) else (bif ((a2.length:Int) == 1) then (at_ a2 0 fun x7=>(bif (decide ((IntKind.i32.wrap (x7.toNat:Int)) ≥ 128)) then (z8z_L24 g g.N a1 65533 (a1.length:Int) (fun e15=>k0 e15) (k0 (-1))) else (z8z_L24 g g.N a1 (IntKind.i32.wrap (x7.toNat:Int)) (a1.length:Int) (fun e16=>k0 e16) (k0 (-1))))) else (z8z_L31 g g.N a1 a2 (a1.length:Int) (fun e26=>k0 e26) (k0 (-1)))))))))
noncomputable def I_z8z [Fuel]:C_z8z:=⟨NN,@z68z _,@z13z _,@strings_IndexRune _,@z66z _⟩
noncomputable def z8z [Fuel]:T_z8z:=@z8z_ I_z8z
def ylay (g:T_z8z):Spec A:=fun args=>match args with | [.d (.str a1),.d (.str a2)]=>fun k=>g a1 a2 (fun z0=>k (.d (.int .i64 z0)) [.undef,.undef]) | _=>fun _=>none
def yjHy:SSt:=mkSh 96 0 [(0,.str),(9,.int .i32),(10,.int .i64)] []
def yeCy (g:C_z8z) (n:Nat):LPT A:=fun ps=>match ps with | [.d (.str p1),.d (.int .i32 p2),.d (.int .i64 p3)]=>fun K=>z8z_L24 g n p1 p2 p3 (fun z0=>K .ret (mkSt 96 0 [(4,.d (.int .i64 z0))] [])) (K (.exit 2) (mkSt 96 0 [] [])) | _=>fun _=>none
def yjwy:SSt:=mkSh 96 0 [(0,.str),(1,.str),(13,.int .i64)] []
def yeJy (g:C_z8z) (n:Nat):LPT A:=fun ps=>match ps with | [.d (.str p1),.d (.str p2),.d (.int .i64 p3)]=>fun K=>z8z_L31 g n p1 p2 p3 (fun z0=>K .ret (mkSt 96 0 [(4,.d (.int .i64 z0))] [])) (K (.exit 4) (mkSt 96 0 [] [])) | _=>fun _=>none
noncomputable def yj0y:Code:=(Tryz.f222.body).getD .skip
noncomputable def E_z8z (g:C_z8z):Env A:=mkE [(144,ymoy g.z68z),(173,ymJy g.z13z),(205,yeHy g.strings_IndexRune),(241,ylJy g.z66z)] [] [(24,⟨[0,9,10],[],[],[],[],[],[]⟩),(31,⟨[0,1,13],[],[],[],[],[],[]⟩)] [(24,⟨[4],[],[],[],[],[],[]⟩),(31,⟨[4],[],[],[],[],[],[]⟩)] [(24,yaiy yjHy (yeCy g g.N)),(31,yaiy yjwy (yeJy g g.N))] [] [] [] [] []
theorem yzYy [Fuel]:yajy (E_z8z I_z8z).C:=ct_of (P:=Tryz.prog) (T:=T) (.cons yx0y (.cons yxBy (.cons ye4y (.cons yxPy .nil)))) (by kernel_rfl)
noncomputable def yyRy:Code:=sub [1,1,1,0,1,0,1,1,0,0,1,0,0] yj0y
theorem yyvy [Fuel]:yagy (E_z8z I_z8z) NN yyRy:=yd6y (by kernel_rfl)
noncomputable def yp1y:Code:=sub [1,1,1,1,0,1,0,1,1,0,1,0,0] yj0y
theorem yBMy (g:C_z8z) (n:Nat):yamy (E_z8z g) g.N yp1y yjHy (yeCy g) n:=by intro ps; unfold yeCy; split; exact .inr fun R K=>(by kernel_rfl); exact .inl fun R K=>rfl
theorem yyzy [Fuel]:yagy (E_z8z I_z8z) NN yp1y:=yaky yjHy (yeCy I_z8z) (by kernel_rfl) yzYy (cuts0 (fun _=>rfl) (by kernel_rfl)) (fun ps R K=>by unfold yeCy; split <;> (try unfold z8z_L24) <;> rfl) (yBMy I_z8z)
noncomputable def ypOy:Code:=sub [1,1,1,1,1,0,1,0,0] yj0y
theorem yBay (g:C_z8z) (n:Nat):yamy (E_z8z g) g.N ypOy yjwy (yeJy g) n:=by intro ps; unfold yeJy; split; exact .inr fun R K=>(by kernel_rfl); exact .inl fun R K=>rfl
theorem yySy [Fuel]:yagy (E_z8z I_z8z) NN ypOy:=yaky yjwy (yeJy I_z8z) (by kernel_rfl) yzYy (cuts0 (fun _=>rfl) (by kernel_rfl)) (fun ps R K=>by unfold yeJy; split <;> (try unfold z8z_L31) <;> rfl) (yBay I_z8z)
theorem yIdy (g:C_z8z):Same (ylay (@z8z_ g)) (abody (E_z8z g) Tryz.f222 yj0y 0 [] [.asis] g.N):=by intro args; unfold ylay; split; exact .inr fun R k=>(by kernel_rfl); exact .inl fun R k=>rfl
theorem yAzy [Fuel]:Ok 222 (ylay (@z8z _)):=yacy std (.cons yx0y (.cons yxBy (.cons ye4y (.cons yxPy .nil)))) ⟨rfl,rfl,by kernel_rfl,rfl,rfl,rfl⟩ (yIdy I_z8z) (cutsL (fun _=>rfl) (.cons yyvy (.cons yyzy (.cons yySy .nil))) (by kernel_rfl)) Tryz.func222 (by kernel_rfl) (by kernel_rfl)
abbrev yp2y:Type 1:=Int→Int→Int→{R:Type}→(Bool→Option R)→Option R
def R_in_ (g:Nat) (a1 a2 a3:Int) {R:Type} (k0:Bool→Option R):Option R :=
 (bif (decide (a2≤a1)) then k0 (decide (a1≤a3)) else k0 false)
noncomputable def R_in [Fuel]:yp2y:=@R_in_ NN
def yi6y (g:yp2y):Spec A:=fun args=>match args with | [.d (.int .i64 a1),.d (.int .i64 a2),.d (.int .i64 a3)]=>fun k=>g a1 a2 a3 (fun z0=>k (.d (.bool z0)) [.undef,.undef,.undef]) | _=>fun _=>none
noncomputable def yDNy:Code:=(Tryz.f224.body).getD .skip
noncomputable def yJiy (g:Nat):Env A:=mkE [] [] [] [] [] [] [] [] [] []
theorem yG1y (g:Nat):Same (yi6y (@R_in_ g)) (abody (yJiy g) Tryz.f224 yDNy 0 [] [.asis] g):=by intro args; unfold yi6y; split; exact .inr fun R k=>(by kernel_rfl); exact .inl fun R k=>rfl
theorem yxYy [Fuel]:Ok 224 (yi6y (@R_in _)):=yacy std .nil ⟨rfl,rfl,by kernel_rfl,rfl,rfl,rfl⟩ (yG1y NN) (cuts0 (fun _=>rfl) (by kernel_rfl)) Tryz.func224 (by kernel_rfl) (by kernel_rfl)
abbrev ydby:Type 1:=List UInt8→List UInt8→{R:Type}→(List UInt8→Option R)→Option R
def strings_Trim [Fuel]:ydby:=@yofy
def yeqy (g:ydby):Spec A:=yhpy g
theorem yhLy [Fuel]:Ok 110 (yeqy (@strings_Trim _)):=⟨yqCy (yzMy rfl (fun s cs w h1 h2 h3=>Any.strings_Trim_laid Tryz.lays160 (by kernel_rfl) s cs w h1 h2 h3)),yugy,yaHy (fn:=Tryz.f110) Tryz.func110 (by kernel_rfl) (by kernel_rfl)⟩
abbrev ybGy:Type 1:=List UInt8→List UInt8→{R:Type}→(Bool→Option R)→Option R
def strings_ContainsAny [Fuel]:ybGy:=@yoZy
def yccy (g:ybGy):Spec A:=yhqy g
theorem ydzy [Fuel]:Ok 225 (yccy (@strings_ContainsAny _)):=⟨yqMy (yzAy rfl (fun s cs w h1 h2 h3 h4=>Any.strings_ContainsAny_laid Tryz.lays150 (by kernel_rfl) s cs w h1 h2 h3 h4)),ytsy,yaHy (fn:=Tryz.f225) Tryz.func225 (by kernel_rfl) (by kernel_rfl)⟩
abbrev yhHy:Type 1:=List UInt8→Int→Int→{R:Type}→(Bool→Option R)→Option R
structure C_R_plain where
 N:Nat
 strings_Trim:ydby
 R_in:yp2y
 strings_ContainsAny:ybGy
def ytty (g:C_R_plain) (a1:List UInt8) (a2 a3:Int) {R:Type} (k0:Bool→Option R):Option R :=
 (g.R_in (a1.length:Int) a2 a3 (fun r4=>(bif r4 then (g.strings_Trim a1 [97,98,99,100,101,102,103,104,105,106,107,108,109,110,111,112,113,114,115,116,117,118,119,120,121,122,48,49,50,51,52,53,54,55,56,57] (fun r5=>(bif (r5 == []) then (g.strings_ContainsAny a1 [97,98,99,100,101,102,103,104,105,106,107,108,109,110,111,112,113,114,115,116,117,118,119,120,121,122] (fun r6=>k0 r6)) else k0 false))) else k0 false)))
noncomputable def yrzy [Fuel]:C_R_plain:=⟨NN,@strings_Trim _,@R_in _,@strings_ContainsAny _⟩
noncomputable def R_plain [Fuel]:yhHy:=@ytty yrzy
def yeSy (g:yhHy):Spec A:=fun args=>match args with | [.d (.str a1),.d (.int .i64 a2),.d (.int .i64 a3)]=>fun k=>g a1 a2 a3 (fun z0=>k (.d (.bool z0)) [.undef,.undef,.undef]) | _=>fun _=>none
noncomputable def yDwy:Code:=(Tryz.f223.body).getD .skip
noncomputable def yBuy (g:C_R_plain):Env A:=mkE [(110,yeqy g.strings_Trim),(224,yi6y g.R_in),(225,yccy g.strings_ContainsAny)] [] [] [] [] [] [] [] [] []
theorem yyly (g:C_R_plain):Same (yeSy (@ytty g)) (abody (yBuy g) Tryz.f223 yDwy 0 [] [.asis] g.N):=by intro args; unfold yeSy; split; exact .inr fun R k=>(by kernel_rfl); exact .inl fun R k=>rfl
theorem yo2y [Fuel]:Ok 223 (yeSy (@R_plain _)):=yacy std (.cons yhLy (.cons yxYy (.cons ydzy .nil))) ⟨rfl,rfl,by kernel_rfl,rfl,rfl,rfl⟩ (yyly yrzy) (cuts0 (fun _=>rfl) (by kernel_rfl)) Tryz.func223 (by kernel_rfl) (by kernel_rfl)
abbrev ygty:Type 1:=List UInt8→{R:Type}→(Int→Option R)→Option R
structure C_R_baseAt where
 N:Nat
 z8z:T_z8z
 R_plain:yhHy
 R_in:yp2y
 strings_ContainsAny:ybGy
def yqWy (g:C_R_baseAt) (a1:List UInt8) {R:Type} (k0:Int→Option R):Option R :=
 (g.z8z a1 [48,49,50,51,52,53,54,55,56,57] (fun r2=>(g.R_plain a1 3 10 (fun r3=>(bif (!r3) then k0 (-1) else (g.R_in r2 1 3 (fun r4=>(bif (!r4) then k0 (-1) else (g.R_in (w64 ((w64 ((a1.length:Int) - 1)) - r2)) 1 4 (fun r5=>(bif (!r5) then k0 (-1) else (bif (decide (0≤r2) && decide (r2≤(a1.length:Int))) then (g.strings_ContainsAny (a1.take (r2:Int).toNat) [97,98,99,100,101,102,103,104,105,106,107,108,109,110,111,112,113,114,115,116,117,118,119,120,121,122] (fun r6=>(bif (!r6) then k0 (-1) else k0 r2))) else none))))))))))))
noncomputable def ypfy [Fuel]:C_R_baseAt:=⟨NN,@z8z _,@R_plain _,@R_in _,@strings_ContainsAny _⟩
noncomputable def R_baseAt [Fuel]:ygty:=@yqWy ypfy
def ydsy (g:ygty):Spec A:=fun args=>match args with | [.d (.str a1)]=>fun k=>g a1 (fun z0=>k (.d (.int .i64 z0)) [.undef]) | _=>fun _=>none
noncomputable def yCIy:Code:=(Tryz.f189.body).getD .skip
noncomputable def yzry (g:C_R_baseAt):Env A:=mkE [(222,ylay g.z8z),(223,yeSy g.R_plain),(224,yi6y g.R_in),(225,yccy g.strings_ContainsAny)] [] [] [] [] [] [] [] [] []
theorem yvEy (g:C_R_baseAt):Same (ydsy (@yqWy g)) (abody (yzry g) Tryz.f189 yCIy 0 [] [.asis] g.N):=by intro args; unfold ydsy; split; exact .inr fun R k=>(by kernel_rfl); exact .inl fun R k=>rfl
theorem ynhy [Fuel]:Ok 189 (ydsy (@R_baseAt _)):=yacy std (.cons yAzy (.cons yo2y (.cons yxYy (.cons ydzy .nil)))) ⟨rfl,rfl,by kernel_rfl,rfl,rfl,rfl⟩ (yvEy ypfy) (cuts0 (fun _=>rfl) (by kernel_rfl)) Tryz.func189 (by kernel_rfl) (by kernel_rfl)
abbrev ytTy:Type 1:=List UInt8→{R:Type}→(G_Parts→Option R)→Option R
structure C_z84z where
 N:Nat
 R_baseAt:ygty
def z84z_ (g:C_z84z) (a1:List UInt8) {R:Type} (k0:G_Parts→Option R):Option R :=
 (g.R_baseAt a1 (fun r2=>(bif (decide (0≤(w64 (r2 + 1))) && decide ((w64 (r2 + 1))≤(a1.length:Int))) then (bif (decide (0≤(w64 (r2 + 1))) && decide ((w64 (r2 + 1))≤(a1.length:Int))) then k0 (⟨a1,(a1.take ((w64 (r2 + 1)):Int).toNat),(a1.drop ((w64 (r2 + 1)):Int).toNat),0,[]⟩:G_Parts) else none) else none)))
noncomputable def yALy [Fuel]:C_z84z:=⟨NN,@R_baseAt _⟩
noncomputable def z84z [Fuel]:ytTy:=@z84z_ yALy
def ymEy (g:ytTy):Spec A:=fun args=>match args with | [.d (.str a1)]=>fun k=>g a1 (fun z0=>k (.agg [.d (.str z0.f_Base),.d (.str z0.f_Prefix),.d (.str z0.f_Suffix),.d (.int .i64 z0.f_Kind),.d (.str z0.f_Added)]) [.undef]) | _=>fun _=>none
noncomputable def yCly:Code:=(Tryz.f188.body).getD .skip
noncomputable def yIyy (g:C_z84z):Env A:=mkE [(189,ydsy g.R_baseAt)] [(2,[0])] [] [] [] [] [] [] [] []
theorem yGLy (g:C_z84z):Same (ymEy (@z84z_ g)) (abody (yIyy g) Tryz.f188 yCly 1 [] [.asis] g.N):=by intro args; unfold ymEy; split; exact .inr fun R k=>(by kernel_rfl); exact .inl fun R k=>rfl
theorem yDYy [Fuel]:Ok 188 (ymEy (@z84z _)):=yacy std (.cons ynhy .nil) ⟨rfl,rfl,by kernel_rfl,rfl,rfl,rfl⟩ (yGLy yALy) (cuts0 (fun _=>rfl) (by kernel_rfl)) Tryz.func188 (by kernel_rfl) (by kernel_rfl)
abbrev ykXy:Type 1:=List UInt8→{R:Type}→(Bool→Option R)→Option R
structure C_R_begin where
 N:Nat
 R_plain:yhHy
def yswy (g:C_R_begin) (a1:List UInt8) {R:Type} (k0:Bool→Option R):Option R :=
 (g.R_plain a1 1 4 (fun r2=>k0 r2))
noncomputable def yrdy [Fuel]:C_R_begin:=⟨NN,@R_plain _⟩
noncomputable def R_begin [Fuel]:ykXy:=@yswy yrdy
def ygCy (g:ykXy):Spec A:=fun args=>match args with | [.d (.str a1)]=>fun k=>g a1 (fun z0=>k (.d (.bool z0)) [.undef]) | _=>fun _=>none
noncomputable def yCCy:Code:=(Tryz.f190.body).getD .skip
noncomputable def yASy (g:C_R_begin):Env A:=mkE [(223,yeSy g.R_plain)] [] [] [] [] [] [] [] [] []
theorem yzIy (g:C_R_begin):Same (ygCy (@yswy g)) (abody (yASy g) Tryz.f190 yCCy 0 [] [.asis] g.N):=by intro args; unfold ygCy; split; exact .inr fun R k=>(by kernel_rfl); exact .inl fun R k=>rfl
theorem yzby [Fuel]:Ok 190 (ygCy (@R_begin _)):=yacy std (.cons yo2y .nil) ⟨rfl,rfl,by kernel_rfl,rfl,rfl,rfl⟩ (yzIy yrdy) (cuts0 (fun _=>rfl) (by kernel_rfl)) Tryz.func190 (by kernel_rfl) (by kernel_rfl)
abbrev yeRy:Type 1:=List UInt8→List UInt8→{R:Type}→(Int→Option R)→Option R
structure C_strings_Index where
 N:Nat
 stringslite_Index:ybVy
def yiKy (g:C_strings_Index) (a1 a2:List UInt8) {R:Type} (k0:Int→Option R):Option R :=
 (g.stringslite_Index a1 a2 (fun r3=>k0 r3))
noncomputable def yhwy [Fuel]:C_strings_Index:=⟨NN,@stringslite_Index _⟩
noncomputable def strings_Index [Fuel]:yeRy:=@yiKy yhwy
def ycpy (g:yeRy):Spec A:=fun args=>match args with | [.d (.str a1),.d (.str a2)]=>fun k=>g a1 a2 (fun z0=>k (.d (.int .i64 z0)) [.undef,.undef]) | _=>fun _=>none
noncomputable def yDyy:Code:=(Tryz.f226.body).getD .skip
noncomputable def ypay (g:C_strings_Index):Env A:=mkE [(235,ycuy g.stringslite_Index)] [] [] [] [] [] [] [] [] []
theorem ynPy (g:C_strings_Index):Same (ycpy (@yiKy g)) (abody (ypay g) Tryz.f226 yDyy 0 [] [.asis] g.N):=by intro args; unfold ycpy; split; exact .inr fun R k=>(by kernel_rfl); exact .inl fun R k=>rfl
theorem ynHy [Fuel]:Ok 226 (ycpy (@strings_Index _)):=yacy std (.cons yeoy .nil) ⟨rfl,rfl,by kernel_rfl,rfl,rfl,rfl⟩ (ynPy yhwy) (cuts0 (fun _=>rfl) (by kernel_rfl)) Tryz.func226 (by kernel_rfl) (by kernel_rfl)
abbrev ycTy:Type 1:=List UInt8→List UInt8→{R:Type}→(Bool→Option R)→Option R
structure C_strings_Contains where
 N:Nat
 strings_Index:yeRy
def ygpy (g:C_strings_Contains) (a1 a2:List UInt8) {R:Type} (k0:Bool→Option R):Option R :=
 (g.strings_Index a1 a2 (fun r3=>k0 (decide (r3 ≥ 0))))
noncomputable def yf5y [Fuel]:C_strings_Contains:=⟨NN,@strings_Index _⟩
noncomputable def strings_Contains [Fuel]:ycTy:=@ygpy yf5y
def ybWy (g:ycTy):Spec A:=fun args=>match args with | [.d (.str a1),.d (.str a2)]=>fun k=>g a1 a2 (fun z0=>k (.d (.bool z0)) [.undef,.undef]) | _=>fun _=>none
noncomputable def yDty:Code:=(Tryz.f191.body).getD .skip
noncomputable def ykRy (g:C_strings_Contains):Env A:=mkE [(226,ycpy g.strings_Index)] [] [] [] [] [] [] [] [] []
theorem ykry (g:C_strings_Contains):Same (ybWy (@ygpy g)) (abody (ykRy g) Tryz.f191 yDty 0 [] [.asis] g.N):=by intro args; unfold ybWy; split; exact .inr fun R k=>(by kernel_rfl); exact .inl fun R k=>rfl
theorem yksy [Fuel]:Ok 191 (ybWy (@strings_Contains _)):=yacy std (.cons ynHy .nil) ⟨rfl,rfl,by kernel_rfl,rfl,rfl,rfl⟩ (ykry yf5y) (cuts0 (fun _=>rfl) (by kernel_rfl)) Tryz.func191 (by kernel_rfl) (by kernel_rfl)
abbrev yhYy:Type 1:=List UInt8→{R:Type}→(G_Parts→Bool→Option R)→Option R
structure C_R_PartsOf where
 N:Nat
 z82z:yoKy
 z84z:ytTy
 R_baseAt:ygty
 R_begin:ykXy
 strings_Contains:ycTy
def yoGy (g:C_R_PartsOf) (a1:List UInt8) {R:Type} (k0:G_Parts→Bool→Option R):Option R :=
 (g.z82z a1 [47] (fun r2 r3 r4=>(bif (decide ((a1.length:Int) > 14)) then k0 (⟨[],[],[],0,[]⟩:G_Parts) false else (bif (!r4) then (g.R_baseAt r2 (fun r5=>(bif (decide (r5 < 0)) then k0 (⟨[],[],[],0,[]⟩:G_Parts) false else (g.z84z r2 (fun r6=>k0 r6 true))))) else (g.R_baseAt r3 (fun r7=>(bif (decide (r7 ≥ 0)) then (g.R_begin r2 (fun r8=>(bif r8 then (g.z84z r3 (fun r9=>k0 (⟨r9.f_Base,r9.f_Prefix,r9.f_Suffix,1,r2⟩:G_Parts) true)) else (g.R_baseAt r2 (fun r10=>(bif (decide (r10 < 0)) then k0 (⟨[],[],[],0,[]⟩:G_Parts) false else (g.z84z r2 (fun r11=>(bif (r3 == [112]) then k0 (⟨r11.f_Base,r11.f_Prefix,r11.f_Suffix,3,r11.f_Added⟩:G_Parts) true else (bif (r3 == [109]) then k0 (⟨r11.f_Base,r11.f_Prefix,r11.f_Suffix,4,r11.f_Added⟩:G_Parts) true else (bif (r3 == [109,109]) then k0 (⟨r11.f_Base,r11.f_Prefix,r11.f_Suffix,5,r11.f_Added⟩:G_Parts) true else (bif (r3 == [97,109]) then k0 (⟨r11.f_Base,r11.f_Prefix,r11.f_Suffix,6,r11.f_Added⟩:G_Parts) true else (bif ((r3.length:Int) == 1) then (g.strings_Contains [48,49,50,51,52,53,54,55,56,57] r3 (fun r12=>(bif r12 then k0 (⟨r11.f_Base,r11.f_Prefix,r11.f_Suffix,2,r3⟩:G_Parts) true else (g.R_begin r3 (fun r13=>(bif r13 then k0 (⟨r11.f_Base,r11.f_Prefix,r11.f_Suffix,1,r3⟩:G_Parts) true else k0 (⟨[],[],[],0,[]⟩:G_Parts) false)))))) else (g.R_begin r3 (fun r14=>(bif r14 then k0 (⟨r11.f_Base,r11.f_Prefix,r11.f_Suffix,1,r3⟩:G_Parts) true else k0 (⟨[],[],[],0,[]⟩:G_Parts) false)))))))))))))))) else (g.R_baseAt r2 (fun r15=>(bif (decide (r15 < 0)) then k0 (⟨[],[],[],0,[]⟩:G_Parts) false else (g.z84z r2 (fun r16=>(bif (r3 == [112]) then k0 (⟨r16.f_Base,r16.f_Prefix,r16.f_Suffix,3,r16.f_Added⟩:G_Parts) true else (bif (r3 == [109]) then k0 (⟨r16.f_Base,r16.f_Prefix,r16.f_Suffix,4,r16.f_Added⟩:G_Parts) true else (bif (r3 == [109,109]) then k0 (⟨r16.f_Base,r16.f_Prefix,r16.f_Suffix,5,r16.f_Added⟩:G_Parts) true else (bif (r3 == [97,109]) then k0 (⟨r16.f_Base,r16.f_Prefix,r16.f_Suffix,6,r16.f_Added⟩:G_Parts) true else (bif ((r3.length:Int) == 1) then (g.strings_Contains [48,49,50,51,52,53,54,55,56,57] r3 (fun r17=>(bif r17 then k0 (⟨r16.f_Base,r16.f_Prefix,r16.f_Suffix,2,r3⟩:G_Parts) true else (g.R_begin r3 (fun r18=>(bif r18 then k0 (⟨r16.f_Base,r16.f_Prefix,r16.f_Suffix,1,r3⟩:G_Parts) true else k0 (⟨[],[],[],0,[]⟩:G_Parts) false)))))) else (g.R_begin r3 (fun r19=>(bif r19 then k0 (⟨r16.f_Base,r16.f_Prefix,r16.f_Suffix,1,r3⟩:G_Parts) true else k0 (⟨[],[],[],0,[]⟩:G_Parts) false))))))))))))))))))))
noncomputable def ymTy [Fuel]:C_R_PartsOf:=⟨NN,@z82z _,@z84z _,@R_baseAt _,@R_begin _,@strings_Contains _⟩
noncomputable def R_PartsOf [Fuel]:yhYy:=@yoGy ymTy
def yemy (g:yhYy):Spec A:=fun args=>match args with | [.d (.str a1)]=>fun k=>g a1 (fun z0 z1=>k (.tup [.agg [.d (.str z0.f_Base),.d (.str z0.f_Prefix),.d (.str z0.f_Suffix),.d (.int .i64 z0.f_Kind),.d (.str z0.f_Added)],.d (.bool z1)]) [.undef]) | _=>fun _=>none
noncomputable def yDoy:Code:=(Tryz.f157.body).getD .skip
noncomputable def ywfy (g:C_R_PartsOf):Env A:=mkE [(175,yify g.z82z),(188,ymEy g.z84z),(189,ydsy g.R_baseAt),(190,ygCy g.R_begin),(191,ybWy g.strings_Contains)] [(2,[0]),(8,[1]),(9,[2])] [] [] [] [] [] [] [] []
theorem ysfy (g:C_R_PartsOf):Same (yemy (@yoGy g)) (abody (ywfy g) Tryz.f157 yDoy 3 [] [.asis,.asis] g.N):=by intro args; unfold yemy; split; exact .inr fun R k=>(by kernel_rfl); exact .inl fun R k=>rfl
theorem yuYy [Fuel]:Ok 157 (yemy (@R_PartsOf _)):=yacy std (.cons ywDy (.cons yDYy (.cons ynhy (.cons yzby (.cons yksy .nil))))) ⟨rfl,rfl,by kernel_rfl,rfl,rfl,rfl⟩ (ysfy ymTy) (cuts0 (fun _=>rfl) (by kernel_rfl)) Tryz.func157 (by kernel_rfl) (by kernel_rfl)
abbrev ynOy:Type 1:=List UInt8→{R:Type}→(Bool→Option R)→Option R
structure C_Q_Call where
 N:Nat
 R_PartsOf:yhYy
def yxwy (g:C_Q_Call) (a1:List UInt8) {R:Type} (k0:Bool→Option R):Option R :=
 (g.R_PartsOf a1 (fun r2 r3=>k0 r3))
noncomputable def ytuy [Fuel]:C_Q_Call:=⟨NN,@R_PartsOf _⟩
noncomputable def Q_Call [Fuel]:ynOy:=@yxwy ytuy
def yhsy (g:ynOy):Spec A:=fun args=>match args with | [.d (.str a1)]=>fun k=>g a1 (fun z0=>k (.d (.bool z0)) [.undef]) | _=>fun _=>none
noncomputable def yCYy:Code:=(Tryz.f129.body).getD .skip
noncomputable def yCny (g:C_Q_Call):Env A:=mkE [(157,yemy g.R_PartsOf)] [(3,[0])] [] [] [] [] [] [] [] []
theorem yAFy (g:C_Q_Call):Same (yhsy (@yxwy g)) (abody (yCny g) Tryz.f129 yCYy 1 [] [.asis] g.N):=by intro args; unfold yhsy; split; exact .inr fun R k=>(by kernel_rfl); exact .inl fun R k=>rfl
theorem yrcy [Fuel]:Ok 129 (yhsy (@Q_Call _)):=yacy std (.cons yuYy .nil) ⟨rfl,rfl,by kernel_rfl,rfl,rfl,rfl⟩ (yAFy ytuy) (cuts0 (fun _=>rfl) (by kernel_rfl)) Tryz.func129 (by kernel_rfl) (by kernel_rfl)
abbrev ysMy:Type 1:=G_Contact→{R:Type}→(Int→Option R)→Option R
structure C_z73z where
 N:Nat
 Q_Moment:ygDy
 Q_Key:ympy
 Q_in:yi3y
 Q_Call:ynOy
def z73z_ (g:C_z73z) (a1:G_Contact) {R:Type} (k0:Int→Option R):Option R :=
 (g.Q_Moment a1.f_At (fun r2=>(bif (!r2) then k0 1 else (g.Q_in a1.f_Mode 1 3 (fun r3=>(bif (!r3) then k0 4 else (g.Q_Key a1.f_Band (fun r4=>(bif (!r4) then k0 5 else (g.Q_Call a1.f_Call (fun r5=>(bif (!r5) then k0 3 else (g.Q_in a1.f_Sent 0 99999 (fun r6=>(bif (!r6) then k0 1 else (g.Q_in a1.f_Heard 0 99999 (fun r7=>(bif (!r7) then k0 1 else (bif (!(a1.f_Gave == [])) then (g.Q_Key a1.f_Gave (fun r8=>(bif (!r8) then k0 5 else (bif (!(a1.f_Got == [])) then (g.Q_Key a1.f_Got (fun r9=>(bif (!r9) then k0 5 else k0 0))) else k0 0)))) else (bif (!(a1.f_Got == [])) then (g.Q_Key a1.f_Got (fun r10=>(bif (!r10) then k0 5 else k0 0))) else k0 0))))))))))))))))))))
noncomputable def yuwy [Fuel]:C_z73z:=⟨NN,@Q_Moment _,@Q_Key _,@Q_in _,@Q_Call _⟩
noncomputable def z73z [Fuel]:ysMy:=@z73z_ yuwy
def ylRy (g:ysMy):Spec A:=fun args=>match args with | [.agg [.d (.int .i64 a1),.d (.int .i64 a2),.d (.str a3),.d (.str a4),.d (.int .i64 a5),.d (.int .i64 a6),.d (.str a7),.d (.str a8)]]=>fun k=>g ⟨a1,a2,a3,a4,a5,a6,a7,a8⟩ (fun z0=>k (.d (.int .i64 z0)) [.undef]) | _=>fun _=>none
noncomputable def yGJy:Code:=(Tryz.f89.body).getD .skip
noncomputable def yH6y (g:C_z73z):Env A:=mkE [(56,ydxy g.Q_Moment),(87,yhdy g.Q_Key),(88,yfwy g.Q_in),(129,yhsy g.Q_Call)] [(1,[0])] [] [] [] [] [] [] [] []
theorem yEdy (g:C_z73z):Same (ylRy (@z73z_ g)) (abody (yH6y g) Tryz.f89 yGJy 1 [] [.asis] g.N):=by intro args; unfold ylRy; split; exact .inr fun R k=>(by kernel_rfl); exact .inl fun R k=>rfl
theorem yHpy [Fuel]:Ok 89 (ylRy (@z73z _)):=yacy std (.cons ynxy (.cons yjSy (.cons yl7y (.cons yrcy .nil)))) ⟨rfl,rfl,by kernel_rfl,rfl,rfl,rfl⟩ (yEdy yuwy) (cuts0 (fun _=>rfl) (by kernel_rfl)) Tryz.func89 (by kernel_rfl) (by kernel_rfl)
abbrev ytWy:Type 1:=G_Deed→{R:Type}→(Int→Option R)→Option R
structure C_z81z where
 N:Nat
 Q_Moment:ygDy
 Q_Key:ympy
 Q_in:yi3y
 z73z:ysMy
def z81z_ (g:C_z81z) (a1:G_Deed) {R:Type} (k0:Int→Option R):Option R :=
 (g.Q_Key a1.f_Site (fun r2=>(bif (!r2) then k0 5 else (g.Q_in a1.f_No 1 1000000 (fun r3=>(bif (!r3) then k0 1 else (g.Q_Moment a1.f_At (fun r4=>(bif (!r4) then k0 1 else (g.Q_in a1.f_Kind 1 5 (fun r5=>(bif (!r5) then k0 4 else (bif (a1.f_Kind == 1) then (g.z73z a1.f_Contact (fun r6=>(bif (r6 != 0) then k0 r6 else (bif (decide (a1.f_Contact.f_At > a1.f_At)) then k0 1 else (bif (!(yaUy a1 (⟨a1.f_Site,a1.f_No,a1.f_At,a1.f_Kind,a1.f_Contact,[],[],0⟩:G_Deed))) then k0 3 else k0 0))))) else (bif (a1.f_Kind == 2) then (g.Q_Key a1.f_Band (fun r7=>(bif (!r7) then k0 5 else (bif (!(yaUy a1 (⟨a1.f_Site,a1.f_No,a1.f_At,a1.f_Kind,(⟨0,0,[],[],0,0,[],[]⟩:G_Contact),a1.f_Band,[],0⟩:G_Deed))) then k0 3 else k0 0)))) else (bif (a1.f_Kind == 5) then (g.Q_Key a1.f_Of (fun r8=>(bif (!r8) then k0 5 else (g.Q_in a1.f_Other 1 1000000 (fun r9=>(bif (!r9) then k0 1 else (bif (!(yaUy a1 (⟨a1.f_Site,a1.f_No,a1.f_At,a1.f_Kind,(⟨0,0,[],[],0,0,[],[]⟩:G_Contact),[],a1.f_Of,a1.f_Other⟩:G_Deed))) then k0 3 else k0 0))))))) else (g.Q_in a1.f_Contact.f_Sent 1 99999 (fun r10=>(bif (!r10) then k0 1 else (bif (!(yaUy a1 (⟨a1.f_Site,a1.f_No,a1.f_At,a1.f_Kind,(⟨0,0,[],[],a1.f_Contact.f_Sent,0,[],[]⟩:G_Contact),[],[],0⟩:G_Deed))) then k0 3 else k0 0)))))))))))))))))))
noncomputable def yuDy [Fuel]:C_z81z:=⟨NN,@Q_Moment _,@Q_Key _,@Q_in _,@z73z _⟩
noncomputable def z81z [Fuel]:ytWy:=@z81z_ yuDy
def ymuy (g:ytWy):Spec A:=fun args=>match args with | [.agg [.d (.str a1),.d (.int .i64 a2),.d (.int .i64 a3),.d (.int .i64 a4),.d (.int .i64 a5),.d (.int .i64 a6),.d (.str a7),.d (.str a8),.d (.int .i64 a9),.d (.int .i64 a10),.d (.str a11),.d (.str a12),.d (.str a13),.d (.str a14),.d (.int .i64 a15)]]=>fun k=>g ⟨a1,a2,a3,a4,⟨a5,a6,a7,a8,a9,a10,a11,a12⟩,a13,a14,a15⟩ (fun z0=>k (.d (.int .i64 z0)) [.undef]) | _=>fun _=>none
noncomputable def yEhy:Code:=(Tryz.f50.body).getD .skip
noncomputable def yH9y (g:C_z81z):Env A:=mkE [(56,ydxy g.Q_Moment),(87,yhdy g.Q_Key),(88,yfwy g.Q_in),(89,ylRy g.z73z)] [(1,[0]),(3,[1])] [] [] [] [] [] [] [] []
theorem yHyy (g:C_z81z):Same (ymuy (@z81z_ g)) (abody (yH9y g) Tryz.f50 yEhy 2 [] [.asis] g.N):=by intro args; unfold ymuy; split; exact .inr fun R k=>(by kernel_rfl); exact .inl fun R k=>rfl
theorem yxQy [Fuel]:Ok 50 (ymuy (@z81z _)):=yacy std (.cons ynxy (.cons yjSy (.cons yl7y (.cons yHpy .nil)))) ⟨rfl,rfl,by kernel_rfl,rfl,rfl,rfl⟩ (yHyy yuDy) (cuts0 (fun _=>rfl) (by kernel_rfl)) Tryz.func50 (by kernel_rfl) (by kernel_rfl)
abbrev yjYy:Type 1:=G_Deed→G_Deed→{R:Type}→(Bool→Option R)→Option R
def yrxy (g:Nat) (a1 a2:G_Deed) {R:Type} (k0:Bool→Option R):Option R :=
 (bif (a1.f_Site == a2.f_Site) then k0 (a1.f_No == a2.f_No) else k0 false)
noncomputable def Q_sameNo [Fuel]:yjYy:=@yrxy NN
def yfTy (g:yjYy):Spec A:=fun args=>match args with | [.agg [.d (.str a1),.d (.int .i64 a2),.d (.int .i64 a3),.d (.int .i64 a4),.d (.int .i64 a5),.d (.int .i64 a6),.d (.str a7),.d (.str a8),.d (.int .i64 a9),.d (.int .i64 a10),.d (.str a11),.d (.str a12),.d (.str a13),.d (.str a14),.d (.int .i64 a15)],.agg [.d (.str a16),.d (.int .i64 a17),.d (.int .i64 a18),.d (.int .i64 a19),.d (.int .i64 a20),.d (.int .i64 a21),.d (.str a22),.d (.str a23),.d (.int .i64 a24),.d (.int .i64 a25),.d (.str a26),.d (.str a27),.d (.str a28),.d (.str a29),.d (.int .i64 a30)]]=>fun k=>g ⟨a1,a2,a3,a4,⟨a5,a6,a7,a8,a9,a10,a11,a12⟩,a13,a14,a15⟩ ⟨a16,a17,a18,a19,⟨a20,a21,a22,a23,a24,a25,a26,a27⟩,a28,a29,a30⟩ (fun z0=>k (.d (.bool z0)) [.undef,.undef]) | _=>fun _=>none
noncomputable def yFZy:Code:=(Tryz.f53.body).getD .skip
noncomputable def yzTy (g:Nat):Env A:=mkE [] [(2,[0]),(3,[1])] [] [] [] [] [] [] [] []
theorem ywey (g:Nat):Same (yfTy (@yrxy g)) (abody (yzTy g) Tryz.f53 yFZy 2 [] [.asis] g):=by intro args; unfold yfTy; split; exact .inr fun R k=>(by kernel_rfl); exact .inl fun R k=>rfl
theorem yv6y [Fuel]:Ok 53 (yfTy (@Q_sameNo _)):=yacy std .nil ⟨rfl,rfl,by kernel_rfl,rfl,rfl,rfl⟩ (ywey NN) (cuts0 (fun _=>rfl) (by kernel_rfl)) Tryz.func53 (by kernel_rfl) (by kernel_rfl)
end Go.Am
