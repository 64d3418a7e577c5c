/- The functions of the program as Lean functions, each shown to be what the code computes, part 3. No condition: lemmas for the claim. -/
import Derived.Test.YtmhbhdhddlbdlaaGreatDoorF0
import Derived.Test.YtmhbhdhddlbdlaaGreatDoorFSh
import Derived.Test.YtmhbhdhddlbdlaaGreatDoorF2
set_option linter.unusedVariables false
set_option maxRecDepth 100000
namespace Go.Am
open Go Go.Proofs
abbrev yvny:Type 1:=List UInt8→{R:Type}→(Int→Int→Option R)→Option R
def z64z_ (g:Nat) (a1:List UInt8) {R:Type} (k0:Int→Int→Option R):Option R :=
 (bif (decide ((a1.length:Int) < 1)) then k0 65533 0 else (at_ a1 0 fun x2=>none))
noncomputable def z64z [Fuel]:yvny:=@z64z_ NN
def yoYy (g:yvny):Spec A:=fun args=>match args with | [.d (.str a1)]=>fun k=>g a1 (fun z0 z1=>k (.tup [.d (.int .i32 z0),.d (.int .i64 z1)]) [.undef]) | _=>fun _=>none
noncomputable def yHiy:Code:=(Tryz.f266.body).getD .skip
noncomputable def yMJy (g:Nat):Env A:=mkE [] [] [] [] [] [] [] [] [] []
theorem yJyy (g:Nat):Same (yoYy (@z64z_ g)) (abody (yMJy g) Tryz.f266 yHiy 0 [] [.asis,.asis] g):=by intro args;unfold yoYy;split;exact .inr fun R k=>(by kernel_rfl);exact .inl fun R k=>rfl
theorem yL5y [Fuel]:Ok 266 (yoYy (@z64z _)):=yacy std .nil ⟨rfl,rfl,by kernel_rfl,rfl,rfl,rfl⟩ (yJyy NN) (cuts0 (fun _=>rfl) (by kernel_rfl)) Tryz.func266 (by kernel_rfl) (by kernel_rfl)
abbrev ywMy:Type 1:=List UInt8→{R:Type}→(Int→Int→Option R)→Option R
structure C_z55z where
 N:Nat
 z64z:yvny
def z55z_ (g:C_z55z) (a1:List UInt8) {R:Type} (k0:Int→Int→Option R):Option R :=
 (bif (!(a1 == [])) then (at_ a1 0 fun x2=>(bif (decide ((x2.toNat:Int) < 128)) then (at_ a1 0 fun x3=>k0 (IntKind.i32.wrap (x3.toNat:Int)) 1) else (g.z64z a1 (fun r4 r5=>k0 r4 r5)))) else (g.z64z a1 (fun r6 r7=>k0 r6 r7)))
noncomputable def yE2y [Fuel]:C_z55z:=⟨NN,@z64z _⟩
noncomputable def z55z [Fuel]:ywMy:=@z55z_ yE2y
def yocy (g:ywMy):Spec A:=fun args=>match args with | [.d (.str a1)]=>fun k=>g a1 (fun z0 z1=>k (.tup [.d (.int .i32 z0),.d (.int .i64 z1)]) [.undef]) | _=>fun _=>none
noncomputable def yHdy:Code:=(Tryz.f234.body).getD .skip
noncomputable def yNIy (g:C_z55z):Env A:=mkE [(266,yoYy g.z64z)] [] [] [] [] [] [] [] [] []
theorem yK8y (g:C_z55z):Same (yocy (@z55z_ g)) (abody (yNIy g) Tryz.f234 yHdy 0 [] [.asis,.asis] g.N):=by intro args;unfold yocy;split;exact .inr fun R k=>(by kernel_rfl);exact .inl fun R k=>rfl
theorem yBpy [Fuel]:Ok 234 (yocy (@z55z _)):=yacy std (.cons yL5y .nil) ⟨rfl,rfl,by kernel_rfl,rfl,rfl,rfl⟩ (yK8y yE2y) (cuts0 (fun _=>rfl) (by kernel_rfl)) Tryz.func234 (by kernel_rfl) (by kernel_rfl)
abbrev yxQy:Type 1:=List UInt8→{R:Type}→(Int→Int→Option R)→Option R
structure C_z13z where
 N:Nat
 z55z:ywMy
 z93z:ywAy
def z13z_L10 (g:C_z13z):Nat→List UInt8→Int→Int→Int→{R:Type}→(List UInt8→Int→Int→Option R)→Option R
 | 0,_,_,_,_,_,_=>none
 | n + 1,v3,v4,v5,v6,_,e0=>(bif (decide (v5 ≥ v6)) then (get_ v3 v5 fun x8=>(g.z93z (x8.toNat:Int))) else e0 v3 v4 v5)
def z13z_ (g:C_z13z) (a1:List UInt8) {R:Type} (k0:Int→Int→Option R):Option R :=
 (bif ((a1.length:Int) == 0) then k0 65533 0 else (get_ a1 (w64 ((a1.length:Int) - 1)) fun x2=>(bif (decide ((IntKind.i32.wrap (x2.toNat:Int)) < 128)) then k0 (IntKind.i32.wrap (x2.toNat:Int)) 1 else (z13z_L10 g g.N a1 (a1.length:Int) (w64 ((w64 ((a1.length:Int) - 1)) - 1)) (if 0 > (w64 ((a1.length:Int) - 4)) then 0 else (w64 ((a1.length:Int) - 4))) (fun e9 e10 e11=>(bif (decide (e11 < 0)) then (bif (decide (0≤0)&&(decide (0≤e10)&&decide (e10≤(e9.length:Int)))) then (g.z55z ((e9.take (e10:Int).toNat).drop (0:Int).toNat) (fun r12 r13=>(bif ((w64 (0 + r13)) != e10) then k0 65533 1 else k0 r12 r13))) else none) else (bif (decide (0≤e11)&&(decide (e11≤e10)&&decide (e10≤(e9.length:Int)))) then (g.z55z ((e9.take (e10:Int).toNat).drop (e11:Int).toNat) (fun r14 r15=>(bif ((w64 (e11 + r15)) != e10) then k0 65533 1 else k0 r14 r15))) else none)))))))
noncomputable def ykJy [Fuel]:C_z13z:=⟨NN,@z55z _,@z93z _⟩
noncomputable def z13z [Fuel]:yxQy:=@z13z_ ykJy
def yoQy (g:yxQy):Spec A:=fun args=>match args with | [.d (.str a1)]=>fun k=>g a1 (fun z0 z1=>k (.tup [.d (.int .i32 z0),.d (.int .i64 z1)]) [.undef]) | _=>fun _=>none
def yj8y:SSt:=mkSh 51 0 [(0,.str),(4,.int .i64),(5,.int .i64),(6,.int .i64)] []
def yejy (g:C_z13z) (n:Nat):LPT A:=fun ps=>match ps with | [.d (.str p1),.d (.int .i64 p2),.d (.int .i64 p3),.d (.int .i64 p4)]=>fun K=>z13z_L10 g n p1 p2 p3 p4 (fun z0 z1 z2=>K (.exit 0) (mkSt 51 0 [(0,.d (.str z0)),(4,.d (.int .i64 z1)),(5,.d (.int .i64 z2))] [])) | _=>fun _=>none
noncomputable def yvqy:Code:=(Tryz.f240.body).getD .skip
noncomputable def yrOy (g:C_z13z):Env A:=mkE [(234,yocy g.z55z),(270,yomy g.z93z)] [] [(10,⟨[0,4,5,6],[],[],[],[],[],[]⟩)] [(10,⟨[0,4,5],[],[],[],[],[],[]⟩)] [(10,yajy yj8y (yejy g g.N))] [] [] [] [] []
theorem yLZy [Fuel]:yaky (yrOy ykJy).C:=ct_of (P:=Tryz.prog) (T:=T) (.cons yBpy (.cons yBxy .nil)) (by kernel_rfl)
noncomputable def ypvy:Code:=sub [1,1,1,1,1,1,1,0,1,0,0] yvqy
theorem yDxy (g:C_z13z) (n:Nat):yaoy (yrOy g) g.N ypvy yj8y (yejy g) n:=by intro ps;unfold yejy;split;exact .inr fun R K=>(by kernel_rfl);exact .inl fun R K=>rfl
theorem yzpy [Fuel]:yagy (yrOy ykJy) NN ypvy:=yaly yj8y (yejy ykJy) (by kernel_rfl) yLZy (cuts0 (fun _=>rfl) (by kernel_rfl)) (fun ps R K=>by unfold yejy;split <;> (try unfold z13z_L10) <;> rfl) (yDxy ykJy)
theorem yK0y (g:C_z13z):Same (yoQy (@z13z_ g)) (abody (yrOy g) Tryz.f240 yvqy 0 [] [.asis,.asis] g.N):=by intro args;unfold yoQy;split;exact .inr fun R k=>(by kernel_rfl);exact .inl fun R k=>rfl
theorem yAMy [Fuel]:Ok 240 (yoQy (@z13z _)):=yacy std (.cons yBpy (.cons yBxy .nil)) ⟨rfl,rfl,by kernel_rfl,rfl,rfl,rfl⟩ (yK0y ykJy) (cutsL (fun _=>rfl) (.cons yzpy .nil) (by kernel_rfl)) Tryz.func240 (by kernel_rfl) (by kernel_rfl)
abbrev T_z7z:Type 1:=List UInt8→List UInt8→{R:Type}→(Int→Option R)→Option R
structure C_z7z where
 N:Nat
 strings_makeASCIISet:ycPy
 z13z:yxQy
 strings_IndexRune:ydCy
 strings_shouldUseASCIISet:ybXy
def z7z_L24 (g:C_z7z):Nat→List UInt8→Int→Int→{R:Type}→(Int→Option R)→Option R→Option R
 | 0,_,_,_,_,_,_=>none
 | n + 1,v8,v9,v10,_,e0,e1=>(bif (decide (v10 > 0)) then (bif (decide (0≤v10)&&decide (v10≤(v8.length:Int))) then (g.z13z (v8.take (v10:Int).toNat) (fun r13 r14=>(bif (v9 == r13) then e0 (w64 (v10 - r14)) else z7z_L24 g n v8 v9 (w64 (v10 - r14)) e0 e1))) else none) else e1)
def z7z_L31 (g:C_z7z):Nat→List UInt8→List UInt8→Int→{R:Type}→(Int→Option R)→Option R→Option R
 | 0,_,_,_,_,_,_=>none
 | n + 1,v17,v18,v19,_,e0,e1=>(bif (decide (v19 > 0)) then (bif (decide (0≤v19)&&decide (v19≤(v17.length:Int))) then (g.z13z (v17.take (v19:Int).toNat) (fun r23 r24=>(g.strings_IndexRune v18 r23 (fun r25=>(bif (decide (r25 ≥ 0)) then e0 (w64 (v19 - r24)) else z7z_L31 g n v17 v18 (w64 (v19 - r24)) e0 e1))))) else none) else e1)
def z7z_ (g:C_z7z) (a1 a2:List UInt8) {R:Type} (k0:Int→Option R):Option R :=
 (bif (a2 == []) then k0 (-1) else (bif ((a1.length:Int) == 1) then (at_ a1 0 fun x3=>(bif (decide ((IntKind.i32.wrap (x3.toNat:Int)) ≥ 128)) then (g.strings_IndexRune a2 65533 (fun r4=>(bif (decide (r4 ≥ 0)) then k0 0 else k0 (-1)))) else (g.strings_IndexRune a2 (IntKind.i32.wrap (x3.toNat:Int)) (fun r5=>(bif (decide (r5 ≥ 0)) then k0 0 else k0 (-1)))))) else (g.strings_shouldUseASCIISet (a1.length:Int) (fun r6=>(bif r6 then (g.strings_makeASCIISet a2) else (bif ((a2.length:Int) == 1) then (at_ a2 0 fun x7=>(bif (decide ((IntKind.i32.wrap (x7.toNat:Int)) ≥ 128)) then (z7z_L24 g g.N a1 65533 (a1.length:Int) (fun e15=>k0 e15) (k0 (-1))) else (z7z_L24 g g.N a1 (IntKind.i32.wrap (x7.toNat:Int)) (a1.length:Int) (fun e16=>k0 e16) (k0 (-1))))) else (z7z_L31 g g.N a1 a2 (a1.length:Int) (fun e26=>k0 e26) (k0 (-1)))))))))
noncomputable def I_z7z [Fuel]:C_z7z:=⟨NN,@strings_makeASCIISet _,@z13z _,@strings_IndexRune _,@strings_shouldUseASCIISet _⟩
noncomputable def z7z [Fuel]:T_z7z:=@z7z_ I_z7z
def yray (g:T_z7z):Spec A:=fun args=>match args with | [.d (.str a1),.d (.str a2)]=>fun k=>g a1 a2 (fun z0=>k (.d (.int .i64 z0)) [.undef,.undef]) | _=>fun _=>none
def ymoy:SSt:=mkSh 96 0 [(0,.str),(9,.int .i32),(10,.int .i64)] []
def yffy (g:C_z7z) (n:Nat):LPT A:=fun ps=>match ps with | [.d (.str p1),.d (.int .i32 p2),.d (.int .i64 p3)]=>fun K=>z7z_L24 g n p1 p2 p3 (fun z0=>K .ret (mkSt 96 0 [(4,.d (.int .i64 z0))] [])) (K (.exit 2) (mkSt 96 0 [] [])) | _=>fun _=>none
def ymiy:SSt:=mkSh 96 0 [(0,.str),(1,.str),(13,.int .i64)] []
def ygjy (g:C_z7z) (n:Nat):LPT A:=fun ps=>match ps with | [.d (.str p1),.d (.str p2),.d (.int .i64 p3)]=>fun K=>z7z_L31 g n p1 p2 p3 (fun z0=>K .ret (mkSt 96 0 [(4,.d (.int .i64 z0))] [])) (K (.exit 4) (mkSt 96 0 [] [])) | _=>fun _=>none
noncomputable def ylWy:Code:=(Tryz.f220.body).getD .skip
noncomputable def E_z7z (g:C_z7z):Env A:=mkE [(195,ybPy g.strings_makeASCIISet),(240,yoQy g.z13z),(260,ygay g.strings_IndexRune),(261,ybmy g.strings_shouldUseASCIISet)] [] [(24,⟨[0,9,10],[],[],[],[],[],[]⟩),(31,⟨[0,1,13],[],[],[],[],[],[]⟩)] [(24,⟨[4],[],[],[],[],[],[]⟩),(31,⟨[4],[],[],[],[],[],[]⟩)] [(24,yajy ymoy (yffy g g.N)),(31,yajy ymiy (ygjy g g.N))] [] [] [] [] []
theorem yEty [Fuel]:yaky (E_z7z I_z7z).C:=ct_of (P:=Tryz.prog) (T:=T) (.cons yeby (.cons yAMy (.cons yfly (.cons yc1y .nil)))) (by kernel_rfl)
noncomputable def yDmy:Code:=sub [1,1,1,0,1,0,1,1,0,0,1,0,0] ylWy
theorem yDry [Fuel]:yagy (E_z7z I_z7z) NN yDmy:=yooy (by kernel_rfl)
noncomputable def yrty:Code:=sub [1,1,1,1,0,1,0,1,1,0,1,0,0] ylWy
theorem yEcy (g:C_z7z) (n:Nat):yaoy (E_z7z g) g.N yrty ymoy (yffy g) n:=by intro ps;unfold yffy;split;exact .inr fun R K=>(by kernel_rfl);exact .inl fun R K=>rfl
theorem yCuy [Fuel]:yagy (E_z7z I_z7z) NN yrty:=yaly ymoy (yffy I_z7z) (by kernel_rfl) yEty (cuts0 (fun _=>rfl) (by kernel_rfl)) (fun ps R K=>by unfold yffy;split <;> (try unfold z7z_L24) <;> rfl) (yEcy I_z7z)
noncomputable def ysHy:Code:=sub [1,1,1,1,1,0,1,0,0] ylWy
theorem yDFy (g:C_z7z) (n:Nat):yaoy (E_z7z g) g.N ysHy ymiy (ygjy g) n:=by intro ps;unfold ygjy;split;exact .inr fun R K=>(by kernel_rfl);exact .inl fun R K=>rfl
theorem yCjy [Fuel]:yagy (E_z7z I_z7z) NN ysHy:=yaly ymiy (ygjy I_z7z) (by kernel_rfl) yEty (cuts0 (fun _=>rfl) (by kernel_rfl)) (fun ps R K=>by unfold ygjy;split <;> (try unfold z7z_L31) <;> rfl) (yDFy I_z7z)
theorem yMFy (g:C_z7z):Same (yray (@z7z_ g)) (abody (E_z7z g) Tryz.f220 ylWy 0 [] [.asis] g.N):=by intro args;unfold yray;split;exact .inr fun R k=>(by kernel_rfl);exact .inl fun R k=>rfl
theorem yFOy [Fuel]:Ok 220 (yray (@z7z _)):=yacy std (.cons yeby (.cons yAMy (.cons yfly (.cons yc1y .nil)))) ⟨rfl,rfl,by kernel_rfl,rfl,rfl,rfl⟩ (yMFy I_z7z) (cutsL (fun _=>rfl) (.cons yDry (.cons yCuy (.cons yCjy .nil))) (by kernel_rfl)) Tryz.func220 (by kernel_rfl) (by kernel_rfl)
abbrev T_z5z:Type 1:=List UInt8→List UInt8→{R:Type}→(Int→Option R)→Option R
noncomputable def z5z [Fuel]:T_z5z:=X_lia (@z7z _)
def yu6y (g:T_z5z):Spec A:=yk8y g
theorem yE9y [Fuel] (a b:List UInt8) (R:Type) (k:IV A→List (IV A)→Option R):yray (@z7z _) [.d (.str a),.d (.str b)] k = @z7z _ a b R (fun z=>k (.d (.int .i64 z)) [.undef,.undef]):=by kernel_rfl
theorem yDPy [Fuel]:Ok 220 (yu6y (@z5z _)):=⟨yMhy (yFey rfl (fun s c w h1 h2 h3 h4 h5=>(Go.Proofs.Tryz.lia s c w h1 h2 h3 h4 h5).mono (fun e w h=>⟨h.1,_,_,_,_,h.2⟩))) yFOy.fs yE9y,yNuy yFOy.na yE9y,enters_of (fn:=Tryz.f220) Tryz.func220 (by kernel_rfl) (by kernel_rfl)⟩
abbrev yqLy:Type 1:=Int→Int→Int→{R:Type}→(Bool→Option R)→Option R
def R_in_ (g:Nat) (a1 a2 a3:Int) {R:Type} (k0:Bool→Option R):Option R :=
 (bif (decide (a2≤a1)) then k0 (decide (a1≤a3)) else k0 false)
noncomputable def R_in [Fuel]:yqLy:=@R_in_ NN
def ykSy (g:yqLy):Spec A:=fun args=>match args with | [.d (.int .i64 a1),.d (.int .i64 a2),.d (.int .i64 a3)]=>fun k=>g a1 a2 a3 (fun z0=>k (.d (.bool z0)) [.undef,.undef,.undef]) | _=>fun _=>none
noncomputable def yHGy:Code:=(Tryz.f222.body).getD .skip
noncomputable def yMqy (g:Nat):Env A:=mkE [] [] [] [] [] [] [] [] [] []
theorem yJHy (g:Nat):Same (ykSy (@R_in_ g)) (abody (yMqy g) Tryz.f222 yHGy 0 [] [.asis] g):=by intro args;unfold ykSy;split;exact .inr fun R k=>(by kernel_rfl);exact .inl fun R k=>rfl
theorem yAiy [Fuel]:Ok 222 (ykSy (@R_in _)):=yacy std .nil ⟨rfl,rfl,by kernel_rfl,rfl,rfl,rfl⟩ (yJHy NN) (cuts0 (fun _=>rfl) (by kernel_rfl)) Tryz.func222 (by kernel_rfl) (by kernel_rfl)
abbrev yc2y:Type 1:=List UInt8→List UInt8→{R:Type}→(List UInt8→Option R)→Option R
def strings_Trim [Fuel]:yc2y:=@yshy
def ydEy (g:yc2y):Spec A:=yiyy g
theorem yfwy [Fuel]:Ok 129 (ydEy (@strings_Trim _)):=⟨ysUy (yChy rfl (fun s cs w h1 h2 h3=>Any.strings_Trim_laid Tryz.lays160 (by kernel_rfl) s cs w h1 h2 h3)),yvJy,enters_of (fn:=Tryz.f129) Tryz.func129 (by kernel_rfl) (by kernel_rfl)⟩
abbrev yb6y:Type 1:=List UInt8→List UInt8→{R:Type}→(Bool→Option R)→Option R
def strings_ContainsAny [Fuel]:yb6y:=@yqRy
def ycNy (g:yb6y):Spec A:=yiCy g
theorem yezy [Fuel]:Ok 223 (ycNy (@strings_ContainsAny _)):=⟨ytly (yCUy rfl (fun s cs w h1 h2 h3 h4=>Any.strings_ContainsAny_laid Tryz.lays150 (by kernel_rfl) s cs w h1 h2 h3 h4)),ywKy,enters_of (fn:=Tryz.f223) Tryz.func223 (by kernel_rfl) (by kernel_rfl)⟩
abbrev yjBy:Type 1:=List UInt8→Int→Int→{R:Type}→(Bool→Option R)→Option R
structure C_R_plain where
 N:Nat
 strings_Trim:yc2y
 R_in:yqLy
 strings_ContainsAny:yb6y
def ywvy (g:C_R_plain) (a1:List UInt8) (a2 a3:Int) {R:Type} (k0:Bool→Option R):Option R :=
 (g.R_in (a1.length:Int) a2 a3 (fun r4=>(bif r4 then (g.strings_Trim a1 [97,98,99,100,101,102,103,104,105,106,107,108,109,110,111,112,113,114,115,116,117,118,119,120,121,122,48,49,50,51,52,53,54,55,56,57] (fun r5=>(bif (r5 == []) then (g.strings_ContainsAny a1 [97,98,99,100,101,102,103,104,105,106,107,108,109,110,111,112,113,114,115,116,117,118,119,120,121,122] (fun r6=>k0 r6)) else k0 false))) else k0 false)))
noncomputable def yury [Fuel]:C_R_plain:=⟨NN,@strings_Trim _,@R_in _,@strings_ContainsAny _⟩
noncomputable def R_plain [Fuel]:yjBy:=@ywvy yury
def ygey (g:yjBy):Spec A:=fun args=>match args with | [.d (.str a1),.d (.int .i64 a2),.d (.int .i64 a3)]=>fun k=>g a1 a2 a3 (fun z0=>k (.d (.bool z0)) [.undef,.undef,.undef]) | _=>fun _=>none
noncomputable def yHBy:Code:=(Tryz.f221.body).getD .skip
noncomputable def yDHy (g:C_R_plain):Env A:=mkE [(129,ydEy g.strings_Trim),(222,ykSy g.R_in),(223,ycNy g.strings_ContainsAny)] [] [] [] [] [] [] [] [] []
theorem yDay (g:C_R_plain):Same (ygey (@ywvy g)) (abody (yDHy g) Tryz.f221 yHBy 0 [] [.asis] g.N):=by intro args;unfold ygey;split;exact .inr fun R k=>(by kernel_rfl);exact .inl fun R k=>rfl
theorem yq8y [Fuel]:Ok 221 (ygey (@R_plain _)):=yacy std (.cons yfwy (.cons yAiy (.cons yezy .nil))) ⟨rfl,rfl,by kernel_rfl,rfl,rfl,rfl⟩ (yDay yury) (cuts0 (fun _=>rfl) (by kernel_rfl)) Tryz.func221 (by kernel_rfl) (by kernel_rfl)
abbrev yh6y:Type 1:=List UInt8→{R:Type}→(Int→Option R)→Option R
structure C_R_baseAt where
 N:Nat
 z5z:T_z5z
 R_plain:yjBy
 R_in:yqLy
 strings_ContainsAny:yb6y
def yuuy (g:C_R_baseAt) (a1:List UInt8) {R:Type} (k0:Int→Option R):Option R :=
 (g.z5z a1 [48,49,50,51,52,53,54,55,56,57] (fun r2=>(g.R_plain a1 3 10 (fun r3=>(bif (!r3) then k0 (-1) else (g.R_in r2 1 3 (fun r4=>(bif (!r4) then k0 (-1) else (g.R_in (w64 ((w64 ((a1.length:Int) - 1)) - r2)) 1 4 (fun r5=>(bif (!r5) then k0 (-1) else (bif (decide (0≤r2)&&decide (r2≤(a1.length:Int))) then (g.strings_ContainsAny (a1.take (r2:Int).toNat) [97,98,99,100,101,102,103,104,105,106,107,108,109,110,111,112,113,114,115,116,117,118,119,120,121,122] (fun r6=>(bif (!r6) then k0 (-1) else k0 r2))) else none))))))))))))
noncomputable def yriy [Fuel]:C_R_baseAt:=⟨NN,@z5z _,@R_plain _,@R_in _,@strings_ContainsAny _⟩
noncomputable def R_baseAt [Fuel]:yh6y:=@yuuy yriy
def yeyy (g:yh6y):Spec A:=fun args=>match args with | [.d (.str a1)]=>fun k=>g a1 (fun z0=>k (.d (.int .i64 z0)) [.undef]) | _=>fun _=>none
noncomputable def yH0y:Code:=(Tryz.f171.body).getD .skip
noncomputable def yCfy (g:C_R_baseAt):Env A:=mkE [(220,yu6y g.z5z),(221,ygey g.R_plain),(222,ykSy g.R_in),(223,ycNy g.strings_ContainsAny)] [] [] [] [] [] [] [] [] []
theorem yyZy (g:C_R_baseAt):Same (yeyy (@yuuy g)) (abody (yCfy g) Tryz.f171 yH0y 0 [] [.asis] g.N):=by intro args;unfold yeyy;split;exact .inr fun R k=>(by kernel_rfl);exact .inl fun R k=>rfl
theorem ypXy [Fuel]:Ok 171 (yeyy (@R_baseAt _)):=yacy std (.cons yDPy (.cons yq8y (.cons yAiy (.cons yezy .nil)))) ⟨rfl,rfl,by kernel_rfl,rfl,rfl,rfl⟩ (yyZy yriy) (cuts0 (fun _=>rfl) (by kernel_rfl)) Tryz.func171 (by kernel_rfl) (by kernel_rfl)
abbrev ywPy:Type 1:=List UInt8→{R:Type}→(G_Parts→Option R)→Option R
structure C_z90z where
 N:Nat
 R_baseAt:yh6y
def z90z_ (g:C_z90z) (a1:List UInt8) {R:Type} (k0:G_Parts→Option R):Option R :=
 (g.R_baseAt a1 (fun r2=>(bif (decide (0≤(w64 (r2 + 1)))&&decide ((w64 (r2 + 1))≤(a1.length:Int))) then (bif (decide (0≤(w64 (r2 + 1)))&&decide ((w64 (r2 + 1))≤(a1.length:Int))) then k0 (⟨a1,(a1.take ((w64 (r2 + 1)):Int).toNat),(a1.drop ((w64 (r2 + 1)):Int).toNat),0,[]⟩:G_Parts) else none) else none)))
noncomputable def yFzy [Fuel]:C_z90z:=⟨NN,@R_baseAt _⟩
noncomputable def z90z [Fuel]:ywPy:=@z90z_ yFzy
def yoay (g:ywPy):Spec A:=fun args=>match args with | [.d (.str a1)]=>fun k=>g a1 (fun z0=>k (.agg [.d (.str z0.f_Base),.d (.str z0.f_Prefix),.d (.str z0.f_Suffix),.d (.int .i64 z0.f_Kind),.d (.str z0.f_Added)]) [.undef]) | _=>fun _=>none
noncomputable def yHVy:Code:=(Tryz.f170.body).getD .skip
noncomputable def yOay (g:C_z90z):Env A:=mkE [(171,yeyy g.R_baseAt)] [(2,[0])] [] [] [] [] [] [] [] []
theorem yJgy (g:C_z90z):Same (yoay (@z90z_ g)) (abody (yOay g) Tryz.f170 yHVy 1 [] [.asis] g.N):=by intro args;unfold yoay;split;exact .inr fun R k=>(by kernel_rfl);exact .inl fun R k=>rfl
theorem yIPy [Fuel]:Ok 170 (yoay (@z90z _)):=yacy std (.cons ypXy .nil) ⟨rfl,rfl,by kernel_rfl,rfl,rfl,rfl⟩ (yJgy yFzy) (cuts0 (fun _=>rfl) (by kernel_rfl)) Tryz.func170 (by kernel_rfl) (by kernel_rfl)
abbrev ynxy:Type 1:=List UInt8→{R:Type}→(Bool→Option R)→Option R
structure C_R_begin where
 N:Nat
 R_plain:yjBy
def yyny (g:C_R_begin) (a1:List UInt8) {R:Type} (k0:Bool→Option R):Option R :=
 (g.R_plain a1 1 4 (fun r2=>k0 r2))
noncomputable def yuly [Fuel]:C_R_begin:=⟨NN,@R_plain _⟩
noncomputable def R_begin [Fuel]:ynxy:=@yyny yuly
def yh3y (g:ynxy):Spec A:=fun args=>match args with | [.d (.str a1)]=>fun k=>g a1 (fun z0=>k (.d (.bool z0)) [.undef]) | _=>fun _=>none
noncomputable def yH2y:Code:=(Tryz.f172.body).getD .skip
noncomputable def yFpy (g:C_R_begin):Env A:=mkE [(221,ygey g.R_plain)] [] [] [] [] [] [] [] [] []
theorem yCWy (g:C_R_begin):Same (yh3y (@yyny g)) (abody (yFpy g) Tryz.f172 yH2y 0 [] [.asis] g.N):=by intro args;unfold yh3y;split;exact .inr fun R k=>(by kernel_rfl);exact .inl fun R k=>rfl
theorem yCwy [Fuel]:Ok 172 (yh3y (@R_begin _)):=yacy std (.cons yq8y .nil) ⟨rfl,rfl,by kernel_rfl,rfl,rfl,rfl⟩ (yCWy yuly) (cuts0 (fun _=>rfl) (by kernel_rfl)) Tryz.func172 (by kernel_rfl) (by kernel_rfl)
abbrev ydDy:Type 1:=List UInt8→List UInt8→{R:Type}→(Int→Option R)→Option R
structure C_strings_Index where
 N:Nat
 stringslite_Index:ycsy
def ykFy (g:C_strings_Index) (a1 a2:List UInt8) {R:Type} (k0:Int→Option R):Option R :=
 (g.stringslite_Index a1 a2 (fun r3=>k0 r3))
noncomputable def yjDy [Fuel]:C_strings_Index:=⟨NN,@stringslite_Index _⟩
noncomputable def strings_Index [Fuel]:ydDy:=@ykFy yjDy
def ycqy (g:ydDy):Spec A:=fun args=>match args with | [.d (.str a1),.d (.str a2)]=>fun k=>g a1 a2 (fun z0=>k (.d (.int .i64 z0)) [.undef,.undef]) | _=>fun _=>none
noncomputable def yGdy:Code:=(Tryz.f191.body).getD .skip
noncomputable def ysSy (g:C_strings_Index):Env A:=mkE [(236,yc9y g.stringslite_Index)] [] [] [] [] [] [] [] [] []
theorem yp6y (g:C_strings_Index):Same (ycqy (@ykFy g)) (abody (ysSy g) Tryz.f191 yGdy 0 [] [.asis] g.N):=by intro args;unfold ycqy;split;exact .inr fun R k=>(by kernel_rfl);exact .inl fun R k=>rfl
theorem yeTy [Fuel]:Ok 191 (ycqy (@strings_Index _)):=yacy std (.cons ygdy .nil) ⟨rfl,rfl,by kernel_rfl,rfl,rfl,rfl⟩ (yp6y yjDy) (cuts0 (fun _=>rfl) (by kernel_rfl)) Tryz.func191 (by kernel_rfl) (by kernel_rfl)
abbrev ydHy:Type 1:=List UInt8→List UInt8→{R:Type}→(Bool→Option R)→Option R
structure C_strings_Contains where
 N:Nat
 strings_Index:ydDy
def yhTy (g:C_strings_Contains) (a1 a2:List UInt8) {R:Type} (k0:Bool→Option R):Option R :=
 (g.strings_Index a1 a2 (fun r3=>k0 (decide (r3 ≥ 0))))
noncomputable def yhGy [Fuel]:C_strings_Contains:=⟨NN,@strings_Index _⟩
noncomputable def strings_Contains [Fuel]:ydHy:=@yhTy yhGy
def ycty (g:ydHy):Spec A:=fun args=>match args with | [.d (.str a1),.d (.str a2)]=>fun k=>g a1 a2 (fun z0=>k (.d (.bool z0)) [.undef,.undef]) | _=>fun _=>none
noncomputable def yHry:Code:=(Tryz.f173.body).getD .skip
noncomputable def yn1y (g:C_strings_Contains):Env A:=mkE [(191,ycqy g.strings_Index)] [] [] [] [] [] [] [] [] []
theorem ymHy (g:C_strings_Contains):Same (ycty (@yhTy g)) (abody (yn1y g) Tryz.f173 yHry 0 [] [.asis] g.N):=by intro args;unfold ycty;split;exact .inr fun R k=>(by kernel_rfl);exact .inl fun R k=>rfl
theorem ymIy [Fuel]:Ok 173 (ycty (@strings_Contains _)):=yacy std (.cons yeTy .nil) ⟨rfl,rfl,by kernel_rfl,rfl,rfl,rfl⟩ (ymHy yhGy) (cuts0 (fun _=>rfl) (by kernel_rfl)) Tryz.func173 (by kernel_rfl) (by kernel_rfl)
abbrev yj0y:Type 1:=List UInt8→{R:Type}→(G_Parts→Bool→Option R)→Option R
structure C_R_PartsOf where
 N:Nat
 z35z:ysJy
 z90z:ywPy
 R_baseAt:yh6y
 R_begin:ynxy
 strings_Contains:ydHy
def ysoy (g:C_R_PartsOf) (a1:List UInt8) {R:Type} (k0:G_Parts→Bool→Option R):Option R :=
 (g.z35z a1 [47] (fun r2 r3 r4=>(bif (decide ((a1.length:Int) > 14)) then k0 (⟨[],[],[],0,[]⟩:G_Parts) false else (bif (!r4) then (g.R_baseAt r2 (fun r5=>(bif (decide (r5 < 0)) then k0 (⟨[],[],[],0,[]⟩:G_Parts) false else (g.z90z r2 (fun r6=>k0 r6 true))))) else (g.R_baseAt r3 (fun r7=>(bif (decide (r7 ≥ 0)) then (g.R_begin r2 (fun r8=>(bif r8 then (g.z90z r3 (fun r9=>k0 (⟨r9.f_Base,r9.f_Prefix,r9.f_Suffix,1,r2⟩:G_Parts) true)) else (g.R_baseAt r2 (fun r10=>(bif (decide (r10 < 0)) then k0 (⟨[],[],[],0,[]⟩:G_Parts) false else (g.z90z r2 (fun r11=>(bif (r3 == [112]) then k0 (⟨r11.f_Base,r11.f_Prefix,r11.f_Suffix,3,r11.f_Added⟩:G_Parts) true else (bif (r3 == [109]) then k0 (⟨r11.f_Base,r11.f_Prefix,r11.f_Suffix,4,r11.f_Added⟩:G_Parts) true else (bif (r3 == [109,109]) then k0 (⟨r11.f_Base,r11.f_Prefix,r11.f_Suffix,5,r11.f_Added⟩:G_Parts) true else (bif (r3 == [97,109]) then k0 (⟨r11.f_Base,r11.f_Prefix,r11.f_Suffix,6,r11.f_Added⟩:G_Parts) true else (bif ((r3.length:Int) == 1) then (g.strings_Contains [48,49,50,51,52,53,54,55,56,57] r3 (fun r12=>(bif r12 then k0 (⟨r11.f_Base,r11.f_Prefix,r11.f_Suffix,2,r3⟩:G_Parts) true else (g.R_begin r3 (fun r13=>(bif r13 then k0 (⟨r11.f_Base,r11.f_Prefix,r11.f_Suffix,1,r3⟩:G_Parts) true else k0 (⟨[],[],[],0,[]⟩:G_Parts) false)))))) else (g.R_begin r3 (fun r14=>(bif r14 then k0 (⟨r11.f_Base,r11.f_Prefix,r11.f_Suffix,1,r3⟩:G_Parts) true else k0 (⟨[],[],[],0,[]⟩:G_Parts) false)))))))))))))))) else (g.R_baseAt r2 (fun r15=>(bif (decide (r15 < 0)) then k0 (⟨[],[],[],0,[]⟩:G_Parts) false else (g.z90z r2 (fun r16=>(bif (r3 == [112]) then k0 (⟨r16.f_Base,r16.f_Prefix,r16.f_Suffix,3,r16.f_Added⟩:G_Parts) true else (bif (r3 == [109]) then k0 (⟨r16.f_Base,r16.f_Prefix,r16.f_Suffix,4,r16.f_Added⟩:G_Parts) true else (bif (r3 == [109,109]) then k0 (⟨r16.f_Base,r16.f_Prefix,r16.f_Suffix,5,r16.f_Added⟩:G_Parts) true else (bif (r3 == [97,109]) then k0 (⟨r16.f_Base,r16.f_Prefix,r16.f_Suffix,6,r16.f_Added⟩:G_Parts) true else (bif ((r3.length:Int) == 1) then (g.strings_Contains [48,49,50,51,52,53,54,55,56,57] r3 (fun r17=>(bif r17 then k0 (⟨r16.f_Base,r16.f_Prefix,r16.f_Suffix,2,r3⟩:G_Parts) true else (g.R_begin r3 (fun r18=>(bif r18 then k0 (⟨r16.f_Base,r16.f_Prefix,r16.f_Suffix,1,r3⟩:G_Parts) true else k0 (⟨[],[],[],0,[]⟩:G_Parts) false)))))) else (g.R_begin r3 (fun r19=>(bif r19 then k0 (⟨r16.f_Base,r16.f_Prefix,r16.f_Suffix,1,r3⟩:G_Parts) true else k0 (⟨[],[],[],0,[]⟩:G_Parts) false))))))))))))))))))))
noncomputable def ypwy [Fuel]:C_R_PartsOf:=⟨NN,@z35z _,@z90z _,@R_baseAt _,@R_begin _,@strings_Contains _⟩
noncomputable def R_PartsOf [Fuel]:yj0y:=@ysoy ypwy
def yf9y (g:yj0y):Spec A:=fun args=>match args with | [.d (.str a1)]=>fun k=>g a1 (fun z0 z1=>k (.tup [.agg [.d (.str z0.f_Base),.d (.str z0.f_Prefix),.d (.str z0.f_Suffix),.d (.int .i64 z0.f_Kind),.d (.str z0.f_Added)],.d (.bool z1)]) [.undef]) | _=>fun _=>none
noncomputable def yG2y:Code:=(Tryz.f109.body).getD .skip
noncomputable def yzly (g:C_R_PartsOf):Env A:=mkE [(169,ykWy g.z35z),(170,yoay g.z90z),(171,yeyy g.R_baseAt),(172,yh3y g.R_begin),(173,ycty g.strings_Contains)] [(2,[0]),(8,[1]),(9,[2])] [] [] [] [] [] [] [] []
theorem yxCy (g:C_R_PartsOf):Same (yf9y (@ysoy g)) (abody (yzly g) Tryz.f109 yG2y 3 [] [.asis,.asis] g.N):=by intro args;unfold yf9y;split;exact .inr fun R k=>(by kernel_rfl);exact .inl fun R k=>rfl
theorem yxvy [Fuel]:Ok 109 (yf9y (@R_PartsOf _)):=yacy std (.cons yAIy (.cons yIPy (.cons ypXy (.cons yCwy (.cons ymIy .nil))))) ⟨rfl,rfl,by kernel_rfl,rfl,rfl,rfl⟩ (yxCy ypwy) (cuts0 (fun _=>rfl) (by kernel_rfl)) Tryz.func109 (by kernel_rfl) (by kernel_rfl)
abbrev yqdy:Type 1:=List UInt8→{R:Type}→(Bool→Option R)→Option R
structure C_Q_Call where
 N:Nat
 R_PartsOf:yj0y
def yAxy (g:C_Q_Call) (a1:List UInt8) {R:Type} (k0:Bool→Option R):Option R :=
 (g.R_PartsOf a1 (fun r2 r3=>k0 r3))
noncomputable def ywZy [Fuel]:C_Q_Call:=⟨NN,@R_PartsOf _⟩
noncomputable def Q_Call [Fuel]:yqdy:=@yAxy ywZy
def yjvy (g:yqdy):Spec A:=fun args=>match args with | [.d (.str a1)]=>fun k=>g a1 (fun z0=>k (.d (.bool z0)) [.undef]) | _=>fun _=>none
noncomputable def yLpy:Code:=(Tryz.f60.body).getD .skip
noncomputable def yGLy (g:C_Q_Call):Env A:=mkE [(109,yf9y g.R_PartsOf)] [(3,[0])] [] [] [] [] [] [] [] []
theorem yEBy (g:C_Q_Call):Same (yjvy (@yAxy g)) (abody (yGLy g) Tryz.f60 yLpy 1 [] [.asis] g.N):=by intro args;unfold yjvy;split;exact .inr fun R k=>(by kernel_rfl);exact .inl fun R k=>rfl
theorem yt7y [Fuel]:Ok 60 (yjvy (@Q_Call _)):=yacy std (.cons yxvy .nil) ⟨rfl,rfl,by kernel_rfl,rfl,rfl,rfl⟩ (yEBy ywZy) (cuts0 (fun _=>rfl) (by kernel_rfl)) Tryz.func60 (by kernel_rfl) (by kernel_rfl)
abbrev yv0y:Type 1:=G_Contact→{R:Type}→(Int→Option R)→Option R
structure C_z78z where
 N:Nat
 Q_Moment:yh7y
 Q_in:ykNy
 Q_Call:yqdy
 Q_Key:yoFy
def z78z_ (g:C_z78z) (a1:G_Contact) {R:Type} (k0:Int→Option R):Option R :=
 (g.Q_Moment a1.f_At (fun r2=>(bif (!r2) then k0 1 else (g.Q_in a1.f_Mode 1 3 (fun r3=>(bif (!r3) then k0 4 else (g.Q_Key a1.f_Band (fun r4=>(bif (!r4) then k0 5 else (g.Q_Call a1.f_Call (fun r5=>(bif (!r5) then k0 3 else (g.Q_in a1.f_Sent 0 99999 (fun r6=>(bif (!r6) then k0 1 else (g.Q_in a1.f_Heard 0 99999 (fun r7=>(bif (!r7) then k0 1 else (bif (!(a1.f_Gave == [])) then (g.Q_Key a1.f_Gave (fun r8=>(bif (!r8) then k0 5 else (bif (!(a1.f_Got == [])) then (g.Q_Key a1.f_Got (fun r9=>(bif (!r9) then k0 5 else k0 0))) else k0 0)))) else (bif (!(a1.f_Got == [])) then (g.Q_Key a1.f_Got (fun r10=>(bif (!r10) then k0 5 else k0 0))) else k0 0))))))))))))))))))))
noncomputable def yvKy [Fuel]:C_z78z:=⟨NN,@Q_Moment _,@Q_in _,@Q_Call _,@Q_Key _⟩
noncomputable def z78z [Fuel]:yv0y:=@z78z_ yvKy
def yogy (g:yv0y):Spec A:=fun args=>match args with | [.agg [.d (.int .i64 a1),.d (.int .i64 a2),.d (.str a3),.d (.str a4),.d (.int .i64 a5),.d (.int .i64 a6),.d (.str a7),.d (.str a8)]]=>fun k=>g ⟨a1,a2,a3,a4,a5,a6,a7,a8⟩ (fun z0=>k (.d (.int .i64 z0)) [.undef]) | _=>fun _=>none
noncomputable def yF8y:Code:=(Tryz.f151.body).getD .skip
noncomputable def yNGy (g:C_z78z):Env A:=mkE [(58,yeoy g.Q_Moment),(59,ygwy g.Q_in),(60,yjvy g.Q_Call),(150,yi1y g.Q_Key)] [(1,[0])] [] [] [] [] [] [] [] []
theorem yK7y (g:C_z78z):Same (yogy (@z78z_ g)) (abody (yNGy g) Tryz.f151 yF8y 1 [] [.asis] g.N):=by intro args;unfold yogy;split;exact .inr fun R k=>(by kernel_rfl);exact .inl fun R k=>rfl
theorem yKKy [Fuel]:Ok 151 (yogy (@z78z _)):=yacy std (.cons ypDy (.cons yo5y (.cons yt7y (.cons ylNy .nil)))) ⟨rfl,rfl,by kernel_rfl,rfl,rfl,rfl⟩ (yK7y yvKy) (cuts0 (fun _=>rfl) (by kernel_rfl)) Tryz.func151 (by kernel_rfl) (by kernel_rfl)
abbrev ywEy:Type 1:=G_Deed→{R:Type}→(Int→Option R)→Option R
structure C_z77z where
 N:Nat
 Q_Moment:yh7y
 Q_in:ykNy
 Q_Key:yoFy
 z78z:yv0y
def z77z_ (g:C_z77z) (a1:G_Deed) {R:Type} (k0:Int→Option R):Option R :=
 (g.Q_Key a1.f_Site (fun r2=>(bif (!r2) then k0 5 else (g.Q_in a1.f_No 1 1000000 (fun r3=>(bif (!r3) then k0 1 else (g.Q_Moment a1.f_At (fun r4=>(bif (!r4) then k0 1 else (g.Q_in a1.f_Kind 1 5 (fun r5=>(bif (!r5) then k0 4 else (bif (a1.f_Kind == 1) then (g.z78z a1.f_Contact (fun r6=>(bif (r6 != 0) then k0 r6 else (bif (decide (a1.f_Contact.f_At > a1.f_At)) then k0 1 else (bif (!(yaKy a1 (⟨a1.f_Site,a1.f_No,a1.f_At,a1.f_Kind,a1.f_Contact,[],[],0⟩:G_Deed))) then k0 3 else k0 0))))) else (bif (a1.f_Kind == 2) then (g.Q_Key a1.f_Band (fun r7=>(bif (!r7) then k0 5 else (bif (!(yaKy a1 (⟨a1.f_Site,a1.f_No,a1.f_At,a1.f_Kind,(⟨0,0,[],[],0,0,[],[]⟩:G_Contact),a1.f_Band,[],0⟩:G_Deed))) then k0 3 else k0 0)))) else (bif (a1.f_Kind == 5) then (g.Q_Key a1.f_Of (fun r8=>(bif (!r8) then k0 5 else (g.Q_in a1.f_Other 1 1000000 (fun r9=>(bif (!r9) then k0 1 else (bif (!(yaKy a1 (⟨a1.f_Site,a1.f_No,a1.f_At,a1.f_Kind,(⟨0,0,[],[],0,0,[],[]⟩:G_Contact),[],a1.f_Of,a1.f_Other⟩:G_Deed))) then k0 3 else k0 0))))))) else (g.Q_in a1.f_Contact.f_Sent 1 99999 (fun r10=>(bif (!r10) then k0 1 else (bif (!(yaKy a1 (⟨a1.f_Site,a1.f_No,a1.f_At,a1.f_Kind,(⟨0,0,[],[],a1.f_Contact.f_Sent,0,[],[]⟩:G_Contact),[],[],0⟩:G_Deed))) then k0 3 else k0 0)))))))))))))))))))
noncomputable def ysyy [Fuel]:C_z77z:=⟨NN,@Q_Moment _,@Q_in _,@Q_Key _,@z78z _⟩
noncomputable def z77z [Fuel]:ywEy:=@z77z_ ysyy
def yozy (g:ywEy):Spec A:=fun args=>match args with | [.agg [.d (.str a1),.d (.int .i64 a2),.d (.int .i64 a3),.d (.int .i64 a4),.d (.int .i64 a5),.d (.int .i64 a6),.d (.str a7),.d (.str a8),.d (.int .i64 a9),.d (.int .i64 a10),.d (.str a11),.d (.str a12),.d (.str a13),.d (.str a14),.d (.int .i64 a15)]]=>fun k=>g ⟨a1,a2,a3,a4,⟨a5,a6,a7,a8,a9,a10,a11,a12⟩,a13,a14,a15⟩ (fun z0=>k (.d (.int .i64 z0)) [.undef]) | _=>fun _=>none
noncomputable def yKay:Code:=(Tryz.f93.body).getD .skip
noncomputable def yNly (g:C_z77z):Env A:=mkE [(58,yeoy g.Q_Moment),(59,ygwy g.Q_in),(150,yi1y g.Q_Key),(151,yogy g.z78z)] [(1,[0]),(3,[1])] [] [] [] [] [] [] [] []
theorem yI9y (g:C_z77z):Same (yozy (@z77z_ g)) (abody (yNly g) Tryz.f93 yKay 2 [] [.asis] g.N):=by intro args;unfold yozy;split;exact .inr fun R k=>(by kernel_rfl);exact .inl fun R k=>rfl
theorem yz9y [Fuel]:Ok 93 (yozy (@z77z _)):=yacy std (.cons ypDy (.cons yo5y (.cons ylNy (.cons yKKy .nil)))) ⟨rfl,rfl,by kernel_rfl,rfl,rfl,rfl⟩ (yI9y ysyy) (cuts0 (fun _=>rfl) (by kernel_rfl)) Tryz.func93 (by kernel_rfl) (by kernel_rfl)
abbrev yl8y:Type 1:=G_Deed→G_Deed→{R:Type}→(Bool→Option R)→Option R
def ytQy (g:Nat) (a1 a2:G_Deed) {R:Type} (k0:Bool→Option R):Option R :=
 (bif (a1.f_Site == a2.f_Site) then k0 (a1.f_No == a2.f_No) else k0 false)
noncomputable def Q_sameNo [Fuel]:yl8y:=@ytQy NN
def yg5y (g:yl8y):Spec A:=fun args=>match args with | [.agg [.d (.str a1),.d (.int .i64 a2),.d (.int .i64 a3),.d (.int .i64 a4),.d (.int .i64 a5),.d (.int .i64 a6),.d (.str a7),.d (.str a8),.d (.int .i64 a9),.d (.int .i64 a10),.d (.str a11),.d (.str a12),.d (.str a13),.d (.str a14),.d (.int .i64 a15)],.agg [.d (.str a16),.d (.int .i64 a17),.d (.int .i64 a18),.d (.int .i64 a19),.d (.int .i64 a20),.d (.int .i64 a21),.d (.str a22),.d (.str a23),.d (.int .i64 a24),.d (.int .i64 a25),.d (.str a26),.d (.str a27),.d (.str a28),.d (.str a29),.d (.int .i64 a30)]]=>fun k=>g ⟨a1,a2,a3,a4,⟨a5,a6,a7,a8,a9,a10,a11,a12⟩,a13,a14,a15⟩ ⟨a16,a17,a18,a19,⟨a20,a21,a22,a23,a24,a25,a26,a27⟩,a28,a29,a30⟩ (fun z0=>k (.d (.bool z0)) [.undef,.undef]) | _=>fun _=>none
noncomputable def yKWy:Code:=(Tryz.f96.body).getD .skip
noncomputable def yCty (g:Nat):Env A:=mkE [] [(2,[0]),(3,[1])] [] [] [] [] [] [] [] []
theorem yzUy (g:Nat):Same (yg5y (@ytQy g)) (abody (yCty g) Tryz.f96 yKWy 2 [] [.asis] g):=by intro args;unfold yg5y;split;exact .inr fun R k=>(by kernel_rfl);exact .inl fun R k=>rfl
theorem yzNy [Fuel]:Ok 96 (yg5y (@Q_sameNo _)):=yacy std .nil ⟨rfl,rfl,by kernel_rfl,rfl,rfl,rfl⟩ (yzUy NN) (cuts0 (fun _=>rfl) (by kernel_rfl)) Tryz.func96 (by kernel_rfl) (by kernel_rfl)
end Go.Am
