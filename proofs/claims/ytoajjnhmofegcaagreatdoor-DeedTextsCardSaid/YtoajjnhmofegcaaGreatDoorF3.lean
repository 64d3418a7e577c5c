/- The functions of the program as Lean functions, each shown to be what the code computes, part 3. No condition: lemmas for the claim. -/
import Derived.Test.YtoajjnhmofegcaaGreatDoorF0
import Derived.Test.YtoajjnhmofegcaaGreatDoorFSh
import Derived.Test.YtoajjnhmofegcaaGreatDoorF2
set_option linter.unusedVariables false
set_option maxRecDepth 100000
namespace Go.Am
open Go Go.Proofs
abbrev ytqy:Type 1:=List UInt8→{R:Type}→(Int→Int→Option R)→Option R
def z57z_ (g:Nat) (a1:List UInt8) {R:Type} (k0:Int→Int→Option R):Option R :=
 (bif (decide ((a1.length:Int) < 1)) then k0 65533 0 else (at_ a1 0 fun x2=>none))
noncomputable def z57z [Fuel]:ytqy:=@z57z_ NN
def ynLy (g:ytqy):Spec A:=fun args=>match args with | [.d (.str a1)]=>fun k=>g a1 (fun z0 z1=>k (.tup [.d (.int .i32 z0),.d (.int .i64 z1)]) [.undef]) | _=>fun _=>none
noncomputable def yCJy:Code:=(Tryz.f301.body).getD .skip
noncomputable def yHZy (g:Nat):Env A:=mkE [] [] [] [] [] [] [] [] [] []
theorem yFqy (g:Nat):Same (ynLy (@z57z_ g)) (abody (yHZy g) Tryz.f301 yCJy 0 [] [.asis,.asis] g):=by intro args;unfold ynLy;split;exact .inr fun R k=>(by kernel_rfl);exact .inl fun R k=>rfl
theorem yGUy [Fuel]:Ok 301 (ynLy (@z57z _)):=yacy std .nil ⟨rfl,rfl,by kernel_rfl,rfl,rfl,rfl⟩ (yFqy NN) (cuts0 (fun _=>rfl) (by kernel_rfl)) Tryz.func301 (by kernel_rfl) (by kernel_rfl)
abbrev ywcy:Type 1:=List UInt8→{R:Type}→(Int→Int→Option R)→Option R
structure C_z44z where
 N:Nat
 z57z:ytqy
def z44z_ (g:C_z44z) (a1:List UInt8) {R:Type} (k0:Int→Int→Option R):Option R :=
 (bif (!(a1 == [])) then (at_ a1 0 fun x2=>(bif (decide ((x2.toNat:Int) < 128)) then (at_ a1 0 fun x3=>k0 (IntKind.i32.wrap (x3.toNat:Int)) 1) else (g.z57z a1 (fun r4 r5=>k0 r4 r5)))) else (g.z57z a1 (fun r6 r7=>k0 r6 r7)))
noncomputable def yBjy [Fuel]:C_z44z:=⟨NN,@z57z _⟩
noncomputable def z44z [Fuel]:ywcy:=@z44z_ yBjy
def ynGy (g:ywcy):Spec A:=fun args=>match args with | [.d (.str a1)]=>fun k=>g a1 (fun z0 z1=>k (.tup [.d (.int .i32 z0),.d (.int .i64 z1)]) [.undef]) | _=>fun _=>none
noncomputable def yEcy:Code:=(Tryz.f262.body).getD .skip
noncomputable def yJhy (g:C_z44z):Env A:=mkE [(301,ynLy g.z57z)] [] [] [] [] [] [] [] [] []
theorem yGGy (g:C_z44z):Same (ynGy (@z44z_ g)) (abody (yJhy g) Tryz.f262 yEcy 0 [] [.asis,.asis] g.N):=by intro args;unfold ynGy;split;exact .inr fun R k=>(by kernel_rfl);exact .inl fun R k=>rfl
theorem yyey [Fuel]:Ok 262 (ynGy (@z44z _)):=yacy std (.cons yGUy .nil) ⟨rfl,rfl,by kernel_rfl,rfl,rfl,rfl⟩ (yGGy yBjy) (cuts0 (fun _=>rfl) (by kernel_rfl)) Tryz.func262 (by kernel_rfl) (by kernel_rfl)
abbrev ywhy:Type 1:=List UInt8→{R:Type}→(Int→Int→Option R)→Option R
structure C_z10z where
 N:Nat
 z44z:ywcy
 z82z:yvhy
def z10z_L10 (g:C_z10z):Nat→List UInt8→Int→Int→Int→{R:Type}→(List UInt8→Int→Int→Option R)→Option R
 | 0,_,_,_,_,_,_=>none
 | n + 1,v3,v4,v5,v6,_,e0=>(bif (decide (v5 ≥ v6)) then (get_ v3 v5 fun x8=>(g.z82z (x8.toNat:Int))) else e0 v3 v4 v5)
def z10z_ (g:C_z10z) (a1:List UInt8) {R:Type} (k0:Int→Int→Option R):Option R :=
 (bif ((a1.length:Int) == 0) then k0 65533 0 else (get_ a1 (w64 ((a1.length:Int) - 1)) fun x2=>(bif (decide ((IntKind.i32.wrap (x2.toNat:Int)) < 128)) then k0 (IntKind.i32.wrap (x2.toNat:Int)) 1 else (z10z_L10 g g.N a1 (a1.length:Int) (w64 ((w64 ((a1.length:Int) - 1)) - 1)) (if 0 > (w64 ((a1.length:Int) - 4)) then 0 else (w64 ((a1.length:Int) - 4))) (fun e9 e10 e11=>(bif (decide (e11 < 0)) then (bif (decide (0≤0)&&(decide (0≤e10)&&decide (e10≤(e9.length:Int)))) then (g.z44z ((e9.take (e10:Int).toNat).drop (0:Int).toNat) (fun r12 r13=>(bif ((w64 (0 + r13)) != e10) then k0 65533 1 else k0 r12 r13))) else none) else (bif (decide (0≤e11)&&(decide (e11≤e10)&&decide (e10≤(e9.length:Int)))) then (g.z44z ((e9.take (e10:Int).toNat).drop (e11:Int).toNat) (fun r14 r15=>(bif ((w64 (e11 + r15)) != e10) then k0 65533 1 else k0 r14 r15))) else none)))))))
noncomputable def yioy [Fuel]:C_z10z:=⟨NN,@z44z _,@z82z _⟩
noncomputable def z10z [Fuel]:ywhy:=@z10z_ yioy
def ynYy (g:ywhy):Spec A:=fun args=>match args with | [.d (.str a1)]=>fun k=>g a1 (fun z0 z1=>k (.tup [.d (.int .i32 z0),.d (.int .i64 z1)]) [.undef]) | _=>fun _=>none
def yjky:SSt:=mkSh 51 0 [(0,.str),(4,.int .i64),(5,.int .i64),(6,.int .i64)] []
def yeuy (g:C_z10z) (n:Nat):LPT A:=fun ps=>match ps with | [.d (.str p1),.d (.int .i64 p2),.d (.int .i64 p3),.d (.int .i64 p4)]=>fun K=>z10z_L10 g n p1 p2 p3 p4 (fun z0 z1 z2=>K (.exit 0) (mkSt 51 0 [(0,.d (.str z0)),(4,.d (.int .i64 z1)),(5,.d (.int .i64 z2))] [])) | _=>fun _=>none
noncomputable def yvAy:Code:=(Tryz.f274.body).getD .skip
noncomputable def ypNy (g:C_z10z):Env A:=mkE [(262,ynGy g.z44z),(304,ynry g.z82z)] [] [(10,⟨[0,4,5,6],[],[],[],[],[],[]⟩)] [(10,⟨[0,4,5],[],[],[],[],[],[]⟩)] [(10,yajy yjky (yeuy g g.N))] [] [] [] [] []
theorem yF1y [Fuel]:yahy (ypNy yioy).C:=ct_of (P:=Tryz.prog) (T:=T) (.cons yyey (.cons yxCy .nil)) (by kernel_rfl)
noncomputable def yowy:Code:=sub [1,1,1,1,1,1,1,0,1,0,0] yvAy
theorem yy1y (g:C_z10z) (n:Nat):yaCy (ypNy g) g.N yowy yjky (yeuy g) n:=by intro ps;unfold yeuy;split;exact .inr fun R K=>(by kernel_rfl);exact .inl fun R K=>rfl
theorem ywBy [Fuel]:yaiy (ypNy yioy) NN yowy:=yamy yjky (yeuy yioy) (by kernel_rfl) yF1y (cuts0 (fun _=>rfl) (by kernel_rfl)) (fun ps R K=>by unfold yeuy;split <;> (try unfold z10z_L10) <;> rfl) (yy1y yioy)
theorem yFjy (g:C_z10z):Same (ynYy (@z10z_ g)) (abody (ypNy g) Tryz.f274 yvAy 0 [] [.asis,.asis] g.N):=by intro args;unfold ynYy;split;exact .inr fun R k=>(by kernel_rfl);exact .inl fun R k=>rfl
theorem yyEy [Fuel]:Ok 274 (ynYy (@z10z _)):=yacy std (.cons yyey (.cons yxCy .nil)) ⟨rfl,rfl,by kernel_rfl,rfl,rfl,rfl⟩ (yFjy yioy) (cutsL (fun _=>rfl) (.cons ywBy .nil) (by kernel_rfl)) Tryz.func274 (by kernel_rfl) (by kernel_rfl)
abbrev T_z6z:Type 1:=List UInt8→List UInt8→{R:Type}→(Int→Option R)→Option R
structure C_z6z where
 N:Nat
 strings_makeASCIISet:ycGy
 z10z:ywhy
 strings_IndexRune:ydwy
 strings_shouldUseASCIISet:yb2y
def z6z_L24 (g:C_z6z):Nat→List UInt8→Int→Int→{R:Type}→(Int→Option R)→Option R→Option R
 | 0,_,_,_,_,_,_=>none
 | n + 1,v8,v9,v10,_,e0,e1=>(bif (decide (v10 > 0)) then (bif (decide (0≤v10)&&decide (v10≤(v8.length:Int))) then (g.z10z (v8.take (v10:Int).toNat) (fun r13 r14=>(bif (v9 == r13) then e0 (w64 (v10 - r14)) else z6z_L24 g n v8 v9 (w64 (v10 - r14)) e0 e1))) else none) else e1)
def z6z_L31 (g:C_z6z):Nat→List UInt8→List UInt8→Int→{R:Type}→(Int→Option R)→Option R→Option R
 | 0,_,_,_,_,_,_=>none
 | n + 1,v17,v18,v19,_,e0,e1=>(bif (decide (v19 > 0)) then (bif (decide (0≤v19)&&decide (v19≤(v17.length:Int))) then (g.z10z (v17.take (v19:Int).toNat) (fun r23 r24=>(g.strings_IndexRune v18 r23 (fun r25=>(bif (decide (r25 ≥ 0)) then e0 (w64 (v19 - r24)) else z6z_L31 g n v17 v18 (w64 (v19 - r24)) e0 e1))))) else none) else e1)
def z6z_ (g:C_z6z) (a1 a2:List UInt8) {R:Type} (k0:Int→Option R):Option R :=
 (bif (a2 == []) then k0 (-1) else (bif ((a1.length:Int) == 1) then (at_ a1 0 fun x3=>(bif (decide ((IntKind.i32.wrap (x3.toNat:Int)) ≥ 128)) then (g.strings_IndexRune a2 65533 (fun r4=>(bif (decide (r4 ≥ 0)) then k0 0 else k0 (-1)))) else (g.strings_IndexRune a2 (IntKind.i32.wrap (x3.toNat:Int)) (fun r5=>(bif (decide (r5 ≥ 0)) then k0 0 else k0 (-1)))))) else (g.strings_shouldUseASCIISet (a1.length:Int) (fun r6=>(bif r6 then (g.strings_makeASCIISet a2) else (bif ((a2.length:Int) == 1) then (at_ a2 0 fun x7=>(bif (decide ((IntKind.i32.wrap (x7.toNat:Int)) ≥ 128)) then (z6z_L24 g g.N a1 65533 (a1.length:Int) (fun e15=>k0 e15) (k0 (-1))) else (z6z_L24 g g.N a1 (IntKind.i32.wrap (x7.toNat:Int)) (a1.length:Int) (fun e16=>k0 e16) (k0 (-1))))) else (z6z_L31 g g.N a1 a2 (a1.length:Int) (fun e26=>k0 e26) (k0 (-1)))))))))
noncomputable def I_z6z [Fuel]:C_z6z:=⟨NN,@strings_makeASCIISet _,@z10z _,@strings_IndexRune _,@strings_shouldUseASCIISet _⟩
noncomputable def z6z [Fuel]:T_z6z:=@z6z_ I_z6z
def yqAy (g:T_z6z):Spec A:=fun args=>match args with | [.d (.str a1),.d (.str a2)]=>fun k=>g a1 a2 (fun z0=>k (.d (.int .i64 z0)) [.undef,.undef]) | _=>fun _=>none
def yk0y:SSt:=mkSh 96 0 [(0,.str),(9,.int .i32),(10,.int .i64)] []
def yffy (g:C_z6z) (n:Nat):LPT A:=fun ps=>match ps with | [.d (.str p1),.d (.int .i32 p2),.d (.int .i64 p3)]=>fun K=>z6z_L24 g n p1 p2 p3 (fun z0=>K .ret (mkSt 96 0 [(4,.d (.int .i64 z0))] [])) (K (.exit 2) (mkSt 96 0 [] [])) | _=>fun _=>none
def ykxy:SSt:=mkSh 96 0 [(0,.str),(1,.str),(13,.int .i64)] []
def yfuy (g:C_z6z) (n:Nat):LPT A:=fun ps=>match ps with | [.d (.str p1),.d (.str p2),.d (.int .i64 p3)]=>fun K=>z6z_L31 g n p1 p2 p3 (fun z0=>K .ret (mkSt 96 0 [(4,.d (.int .i64 z0))] [])) (K (.exit 4) (mkSt 96 0 [] [])) | _=>fun _=>none
noncomputable def ylny:Code:=(Tryz.f235.body).getD .skip
noncomputable def E_z6z (g:C_z6z):Env A:=mkE [(226,ybTy g.strings_makeASCIISet),(274,ynYy g.z10z),(280,yfJy g.strings_IndexRune),(281,ybmy g.strings_shouldUseASCIISet)] [] [(24,⟨[0,9,10],[],[],[],[],[],[]⟩),(31,⟨[0,1,13],[],[],[],[],[],[]⟩)] [(24,⟨[4],[],[],[],[],[],[]⟩),(31,⟨[4],[],[],[],[],[],[]⟩)] [(24,yajy yk0y (yffy g g.N)),(31,yajy ykxy (yfuy g g.N))] [] [] [] [] []
theorem yB0y [Fuel]:yahy (E_z6z I_z6z).C:=ct_of (P:=Tryz.prog) (T:=T) (.cons yeey (.cons yyEy (.cons yfMy (.cons ycSy .nil)))) (by kernel_rfl)
noncomputable def yzPy:Code:=sub [1,1,1,0,1,0,1,1,0,0,1,0,0] ylny
theorem yAry [Fuel]:yaiy (E_z6z I_z6z) NN yzPy:=ynpy (by kernel_rfl)
noncomputable def yrfy:Code:=sub [1,1,1,1,0,1,0,1,1,0,1,0,0] ylny
theorem yB8y (g:C_z6z) (n:Nat):yaCy (E_z6z g) g.N yrfy yk0y (yffy g) n:=by intro ps;unfold yffy;split;exact .inr fun R K=>(by kernel_rfl);exact .inl fun R K=>rfl
theorem yz6y [Fuel]:yaiy (E_z6z I_z6z) NN yrfy:=yamy yk0y (yffy I_z6z) (by kernel_rfl) yB0y (cuts0 (fun _=>rfl) (by kernel_rfl)) (fun ps R K=>by unfold yffy;split <;> (try unfold z6z_L24) <;> rfl) (yB8y I_z6z)
noncomputable def yq4y:Code:=sub [1,1,1,1,1,0,1,0,0] ylny
theorem yCky (g:C_z6z) (n:Nat):yaCy (E_z6z g) g.N yq4y ykxy (yfuy g) n:=by intro ps;unfold yfuy;split;exact .inr fun R K=>(by kernel_rfl);exact .inl fun R K=>rfl
theorem yAiy [Fuel]:yaiy (E_z6z I_z6z) NN yq4y:=yamy ykxy (yfuy I_z6z) (by kernel_rfl) yB0y (cuts0 (fun _=>rfl) (by kernel_rfl)) (fun ps R K=>by unfold yfuy;split <;> (try unfold z6z_L31) <;> rfl) (yCky I_z6z)
theorem yJry (g:C_z6z):Same (yqAy (@z6z_ g)) (abody (E_z6z g) Tryz.f235 ylny 0 [] [.asis] g.N):=by intro args;unfold yqAy;split;exact .inr fun R k=>(by kernel_rfl);exact .inl fun R k=>rfl
theorem yBiy [Fuel]:Ok 235 (yqAy (@z6z _)):=yacy std (.cons yeey (.cons yyEy (.cons yfMy (.cons ycSy .nil)))) ⟨rfl,rfl,by kernel_rfl,rfl,rfl,rfl⟩ (yJry I_z6z) (cutsL (fun _=>rfl) (.cons yAry (.cons yz6y (.cons yAiy .nil))) (by kernel_rfl)) Tryz.func235 (by kernel_rfl) (by kernel_rfl)
abbrev T_z4z:Type 1:=List UInt8→List UInt8→{R:Type}→(Int→Option R)→Option R
noncomputable def z4z [Fuel]:T_z4z:=X_lia (@z6z _)
def ytsy (g:T_z4z):Spec A:=yjCy g
theorem yBly [Fuel] (a b:List UInt8) (R:Type) (k:IV A→List (IV A)→Option R):yqAy (@z6z _) [.d (.str a),.d (.str b)] k = @z6z _ a b R (fun z=>k (.d (.int .i64 z)) [.undef,.undef]):=by kernel_rfl
theorem yAyy [Fuel]:Ok 235 (ytsy (@z4z _)):=⟨yJiy (yBYy rfl (fun s c w h1 h2 h3 h4 h5=>(Go.Proofs.Tryz.lia s c w h1 h2 h3 h4 h5).mono (fun e w h=>⟨h.1,_,_,_,_,h.2⟩))) yBiy.fs yBly,yIHy yBiy.na yBly,enters_of (fn:=Tryz.f235) Tryz.func235 (by kernel_rfl) (by kernel_rfl)⟩
abbrev yqjy:Type 1:=Int→Int→Int→{R:Type}→(Bool→Option R)→Option R
def R_in_ (g:Nat) (a1 a2 a3:Int) {R:Type} (k0:Bool→Option R):Option R :=
 (bif (decide (a2≤a1)) then k0 (decide (a1≤a3)) else k0 false)
noncomputable def R_in [Fuel]:yqjy:=@R_in_ NN
def ykey (g:yqjy):Spec A:=fun args=>match args with | [.d (.int .i64 a1),.d (.int .i64 a2),.d (.int .i64 a3)]=>fun k=>g a1 a2 a3 (fun z0=>k (.d (.bool z0)) [.undef,.undef,.undef]) | _=>fun _=>none
noncomputable def yDdy:Code:=(Tryz.f237.body).getD .skip
noncomputable def yIOy (g:Nat):Env A:=mkE [] [] [] [] [] [] [] [] [] []
theorem yGsy (g:Nat):Same (ykey (@R_in_ g)) (abody (yIOy g) Tryz.f237 yDdy 0 [] [.asis] g):=by intro args;unfold ykey;split;exact .inr fun R k=>(by kernel_rfl);exact .inl fun R k=>rfl
theorem yxXy [Fuel]:Ok 237 (ykey (@R_in _)):=yacy std .nil ⟨rfl,rfl,by kernel_rfl,rfl,rfl,rfl⟩ (yGsy NN) (cuts0 (fun _=>rfl) (by kernel_rfl)) Tryz.func237 (by kernel_rfl) (by kernel_rfl)
abbrev ycKy:Type 1:=List UInt8→List UInt8→{R:Type}→(List UInt8→Option R)→Option R
def strings_Trim [Fuel]:ycKy:=@yqKy
def ydzy (g:ycKy):Spec A:=yivy g
theorem yfxy [Fuel]:Ok 179 (ydzy (@strings_Trim _)):=⟨yrsy (yyYy rfl (fun s cs w h1 h2 h3=>Any.strings_Trim_laid Tryz.lays160 (by kernel_rfl) s cs w h1 h2 h3)),ytBy,enters_of (fn:=Tryz.f179) Tryz.func179 (by kernel_rfl) (by kernel_rfl)⟩
abbrev yb5y:Type 1:=List UInt8→List UInt8→{R:Type}→(Bool→Option R)→Option R
def strings_ContainsAny [Fuel]:yb5y:=@ypWy
def ycFy (g:yb5y):Spec A:=yihy g
theorem yeiy [Fuel]:Ok 238 (ycFy (@strings_ContainsAny _)):=⟨yryy (yz7y rfl (fun s cs w h1 h2 h3 h4=>Any.strings_ContainsAny_laid Tryz.lays150 (by kernel_rfl) s cs w h1 h2 h3 h4)),ywiy,enters_of (fn:=Tryz.f238) Tryz.func238 (by kernel_rfl) (by kernel_rfl)⟩
abbrev yiHy:Type 1:=List UInt8→Int→Int→{R:Type}→(Bool→Option R)→Option R
structure C_R_plain where
 N:Nat
 strings_Trim:ycKy
 R_in:yqjy
 strings_ContainsAny:yb5y
def ykAy (g:C_R_plain) (a1:List UInt8) (a2 a3:Int) {R:Type} (k0:Bool→Option R):Option R :=
 (g.R_in (a1.length:Int) a2 a3 (fun r4=>(bif r4 then (g.strings_Trim a1 [97,98,99,100,101,102,103,104,105,106,107,108,109,110,111,112,113,114,115,116,117,118,119,120,121,122,48,49,50,51,52,53,54,55,56,57] (fun r5=>(bif (r5 == []) then (g.strings_ContainsAny a1 [97,98,99,100,101,102,103,104,105,106,107,108,109,110,111,112,113,114,115,116,117,118,119,120,121,122] (fun r6=>k0 r6)) else k0 false))) else k0 false)))
noncomputable def ye4y [Fuel]:C_R_plain:=⟨NN,@strings_Trim _,@R_in _,@strings_ContainsAny _⟩
noncomputable def R_plain [Fuel]:yiHy:=@ykAy ye4y
def yfOy (g:yiHy):Spec A:=fun args=>match args with | [.d (.str a1),.d (.int .i64 a2),.d (.int .i64 a3)]=>fun k=>g a1 a2 a3 (fun z0=>k (.d (.bool z0)) [.undef,.undef,.undef]) | _=>fun _=>none
noncomputable def yEay:Code:=(Tryz.f236.body).getD .skip
noncomputable def yACy (g:C_R_plain):Env A:=mkE [(179,ydzy g.strings_Trim),(237,ykey g.R_in),(238,ycFy g.strings_ContainsAny)] [] [] [] [] [] [] [] [] []
theorem yzRy (g:C_R_plain):Same (yfOy (@ykAy g)) (abody (yACy g) Tryz.f236 yEay 0 [] [.asis] g.N):=by intro args;unfold yfOy;split;exact .inr fun R k=>(by kernel_rfl);exact .inl fun R k=>rfl
theorem yqIy [Fuel]:Ok 236 (yfOy (@R_plain _)):=yacy std (.cons yfxy (.cons yxXy (.cons yeiy .nil))) ⟨rfl,rfl,by kernel_rfl,rfl,rfl,rfl⟩ (yzRy ye4y) (cuts0 (fun _=>rfl) (by kernel_rfl)) Tryz.func236 (by kernel_rfl) (by kernel_rfl)
abbrev yhGy:Type 1:=List UInt8→{R:Type}→(Int→Option R)→Option R
structure C_R_baseAt where
 N:Nat
 z4z:T_z4z
 R_plain:yiHy
 R_in:yqjy
 strings_ContainsAny:yb5y
def yiCy (g:C_R_baseAt) (a1:List UInt8) {R:Type} (k0:Int→Option R):Option R :=
 (g.z4z a1 [48,49,50,51,52,53,54,55,56,57] (fun r2=>(g.R_plain a1 3 10 (fun r3=>(bif (!r3) then k0 (-1) else (g.R_in r2 1 3 (fun r4=>(bif (!r4) then k0 (-1) else (g.R_in (w64 ((w64 ((a1.length:Int) - 1)) - r2)) 1 4 (fun r5=>(bif (!r5) then k0 (-1) else (bif (decide (0≤r2)&&decide (r2≤(a1.length:Int))) then (g.strings_ContainsAny (a1.take (r2:Int).toNat) [97,98,99,100,101,102,103,104,105,106,107,108,109,110,111,112,113,114,115,116,117,118,119,120,121,122] (fun r6=>(bif (!r6) then k0 (-1) else k0 r2))) else none))))))))))))
noncomputable def yaKy [Fuel]:C_R_baseAt:=⟨NN,@z4z _,@R_plain _,@R_in _,@strings_ContainsAny _⟩
noncomputable def R_baseAt [Fuel]:yhGy:=@yiCy yaKy
def yeAy (g:yhGy):Spec A:=fun args=>match args with | [.d (.str a1)]=>fun k=>g a1 (fun z0=>k (.d (.int .i64 z0)) [.undef]) | _=>fun _=>none
noncomputable def yEoy:Code:=(Tryz.f182.body).getD .skip
noncomputable def yzgy (g:C_R_baseAt):Env A:=mkE [(235,ytsy g.z4z),(236,yfOy g.R_plain),(237,ykey g.R_in),(238,ycFy g.strings_ContainsAny)] [] [] [] [] [] [] [] [] []
theorem ywMy (g:C_R_baseAt):Same (yeAy (@yiCy g)) (abody (yzgy g) Tryz.f182 yEoy 0 [] [.asis] g.N):=by intro args;unfold yeAy;split;exact .inr fun R k=>(by kernel_rfl);exact .inl fun R k=>rfl
theorem yoty [Fuel]:Ok 182 (yeAy (@R_baseAt _)):=yacy std (.cons yAyy (.cons yqIy (.cons yxXy (.cons yeiy .nil)))) ⟨rfl,rfl,by kernel_rfl,rfl,rfl,rfl⟩ (ywMy yaKy) (cuts0 (fun _=>rfl) (by kernel_rfl)) Tryz.func182 (by kernel_rfl) (by kernel_rfl)
abbrev ytfy:Type 1:=List UInt8→{R:Type}→(G_Parts→Option R)→Option R
structure C_z70z where
 N:Nat
 R_baseAt:yhGy
def z70z_ (g:C_z70z) (a1:List UInt8) {R:Type} (k0:G_Parts→Option R):Option R :=
 (g.R_baseAt a1 (fun r2=>(bif (decide (0≤(w64 (r2 + 1)))&&decide ((w64 (r2 + 1))≤(a1.length:Int))) then (bif (decide (0≤(w64 (r2 + 1)))&&decide ((w64 (r2 + 1))≤(a1.length:Int))) then k0 (⟨a1,(a1.take ((w64 (r2 + 1)):Int).toNat),(a1.drop ((w64 (r2 + 1)):Int).toNat),0,[]⟩:G_Parts) else none) else none)))
noncomputable def yqsy [Fuel]:C_z70z:=⟨NN,@R_baseAt _⟩
noncomputable def z70z [Fuel]:ytfy:=@z70z_ yqsy
def ynmy (g:ytfy):Spec A:=fun args=>match args with | [.d (.str a1)]=>fun k=>g a1 (fun z0=>k (.agg [.d (.str z0.f_Base),.d (.str z0.f_Prefix),.d (.str z0.f_Suffix),.d (.int .i64 z0.f_Kind),.d (.str z0.f_Added)]) [.undef]) | _=>fun _=>none
noncomputable def yDDy:Code:=(Tryz.f181.body).getD .skip
noncomputable def yIAy (g:C_z70z):Env A:=mkE [(182,yeAy g.R_baseAt)] [(2,[0])] [] [] [] [] [] [] [] []
theorem yG3y (g:C_z70z):Same (ynmy (@z70z_ g)) (abody (yIAy g) Tryz.f181 yDDy 1 [] [.asis] g.N):=by intro args;unfold ynmy;split;exact .inr fun R k=>(by kernel_rfl);exact .inl fun R k=>rfl
theorem yHfy [Fuel]:Ok 181 (ynmy (@z70z _)):=yacy std (.cons yoty .nil) ⟨rfl,rfl,by kernel_rfl,rfl,rfl,rfl⟩ (yG3y yqsy) (cuts0 (fun _=>rfl) (by kernel_rfl)) Tryz.func181 (by kernel_rfl) (by kernel_rfl)
abbrev yl9y:Type 1:=List UInt8→{R:Type}→(Bool→Option R)→Option R
structure C_R_begin where
 N:Nat
 R_plain:yiHy
def yvdy (g:C_R_begin) (a1:List UInt8) {R:Type} (k0:Bool→Option R):Option R :=
 (g.R_plain a1 1 4 (fun r2=>k0 r2))
noncomputable def yiKy [Fuel]:C_R_begin:=⟨NN,@R_plain _⟩
noncomputable def R_begin [Fuel]:yl9y:=@yvdy yiKy
def yhny (g:yl9y):Spec A:=fun args=>match args with | [.d (.str a1)]=>fun k=>g a1 (fun z0=>k (.d (.bool z0)) [.undef]) | _=>fun _=>none
noncomputable def yD5y:Code:=(Tryz.f183.body).getD .skip
noncomputable def yBXy (g:C_R_begin):Env A:=mkE [(236,yfOy g.R_plain)] [] [] [] [] [] [] [] [] []
theorem yzvy (g:C_R_begin):Same (yhny (@yvdy g)) (abody (yBXy g) Tryz.f183 yD5y 0 [] [.asis] g.N):=by intro args;unfold yhny;split;exact .inr fun R k=>(by kernel_rfl);exact .inl fun R k=>rfl
theorem yz8y [Fuel]:Ok 183 (yhny (@R_begin _)):=yacy std (.cons yqIy .nil) ⟨rfl,rfl,by kernel_rfl,rfl,rfl,rfl⟩ (yzvy yiKy) (cuts0 (fun _=>rfl) (by kernel_rfl)) Tryz.func183 (by kernel_rfl) (by kernel_rfl)
abbrev ydxy:Type 1:=List UInt8→List UInt8→{R:Type}→(Int→Option R)→Option R
structure C_strings_Index where
 N:Nat
 stringslite_Index:ycsy
def yj1y (g:C_strings_Index) (a1 a2:List UInt8) {R:Type} (k0:Int→Option R):Option R :=
 (g.stringslite_Index a1 a2 (fun r3=>k0 r3))
noncomputable def yi1y [Fuel]:C_strings_Index:=⟨NN,@stringslite_Index _⟩
noncomputable def strings_Index [Fuel]:ydxy:=@yj1y yi1y
def ycmy (g:ydxy):Spec A:=fun args=>match args with | [.d (.str a1),.d (.str a2)]=>fun k=>g a1 a2 (fun z0=>k (.d (.int .i64 z0)) [.undef,.undef]) | _=>fun _=>none
noncomputable def yEdy:Code:=(Tryz.f217.body).getD .skip
noncomputable def yquy (g:C_strings_Index):Env A:=mkE [(218,ydby g.stringslite_Index)] [] [] [] [] [] [] [] [] []
theorem yoVy (g:C_strings_Index):Same (ycmy (@yj1y g)) (abody (yquy g) Tryz.f217 yEdy 0 [] [.asis] g.N):=by intro args;unfold ycmy;split;exact .inr fun R k=>(by kernel_rfl);exact .inl fun R k=>rfl
theorem yeRy [Fuel]:Ok 217 (ycmy (@strings_Index _)):=yacy std (.cons yfKy .nil) ⟨rfl,rfl,by kernel_rfl,rfl,rfl,rfl⟩ (yoVy yi1y) (cuts0 (fun _=>rfl) (by kernel_rfl)) Tryz.func217 (by kernel_rfl) (by kernel_rfl)
abbrev ydRy:Type 1:=List UInt8→List UInt8→{R:Type}→(Bool→Option R)→Option R
structure C_strings_Contains where
 N:Nat
 strings_Index:ydxy
def yhjy (g:C_strings_Contains) (a1 a2:List UInt8) {R:Type} (k0:Bool→Option R):Option R :=
 (g.strings_Index a1 a2 (fun r3=>k0 (decide (r3 ≥ 0))))
noncomputable def ygYy [Fuel]:C_strings_Contains:=⟨NN,@strings_Index _⟩
noncomputable def strings_Contains [Fuel]:ydRy:=@yhjy ygYy
def ycry (g:ydRy):Spec A:=fun args=>match args with | [.d (.str a1),.d (.str a2)]=>fun k=>g a1 a2 (fun z0=>k (.d (.bool z0)) [.undef,.undef]) | _=>fun _=>none
noncomputable def yEhy:Code:=(Tryz.f184.body).getD .skip
noncomputable def ymxy (g:C_strings_Contains):Env A:=mkE [(217,ycmy g.strings_Index)] [] [] [] [] [] [] [] [] []
theorem ylOy (g:C_strings_Contains):Same (ycry (@yhjy g)) (abody (ymxy g) Tryz.f184 yEhy 0 [] [.asis] g.N):=by intro args;unfold ycry;split;exact .inr fun R k=>(by kernel_rfl);exact .inl fun R k=>rfl
theorem ylPy [Fuel]:Ok 184 (ycry (@strings_Contains _)):=yacy std (.cons yeRy .nil) ⟨rfl,rfl,by kernel_rfl,rfl,rfl,rfl⟩ (ylOy ygYy) (cuts0 (fun _=>rfl) (by kernel_rfl)) Tryz.func184 (by kernel_rfl) (by kernel_rfl)
abbrev yjcy:Type 1:=List UInt8→{R:Type}→(G_Parts→Bool→Option R)→Option R
structure C_R_PartsOf where
 N:Nat
 z22z:ymSy
 z70z:ytfy
 R_baseAt:yhGy
 R_begin:yl9y
 strings_Contains:ydRy
def yhKy (g:C_R_PartsOf) (a1:List UInt8) {R:Type} (k0:G_Parts→Bool→Option R):Option R :=
 (g.z22z a1 [47] (fun r2 r3 r4=>(bif (decide ((a1.length:Int) > 14)) then k0 (⟨[],[],[],0,[]⟩:G_Parts) false else (bif (!r4) then (g.R_baseAt r2 (fun r5=>(bif (decide (r5 < 0)) then k0 (⟨[],[],[],0,[]⟩:G_Parts) false else (g.z70z r2 (fun r6=>k0 r6 true))))) else (g.R_baseAt r3 (fun r7=>(bif (decide (r7 ≥ 0)) then (g.R_begin r2 (fun r8=>(bif r8 then (g.z70z r3 (fun r9=>k0 (⟨r9.f_Base,r9.f_Prefix,r9.f_Suffix,1,r2⟩:G_Parts) true)) else (g.R_baseAt r2 (fun r10=>(bif (decide (r10 < 0)) then k0 (⟨[],[],[],0,[]⟩:G_Parts) false else (g.z70z r2 (fun r11=>(bif (r3 == [112]) then k0 (⟨r11.f_Base,r11.f_Prefix,r11.f_Suffix,3,r11.f_Added⟩:G_Parts) true else (bif (r3 == [109]) then k0 (⟨r11.f_Base,r11.f_Prefix,r11.f_Suffix,4,r11.f_Added⟩:G_Parts) true else (bif (r3 == [109,109]) then k0 (⟨r11.f_Base,r11.f_Prefix,r11.f_Suffix,5,r11.f_Added⟩:G_Parts) true else (bif (r3 == [97,109]) then k0 (⟨r11.f_Base,r11.f_Prefix,r11.f_Suffix,6,r11.f_Added⟩:G_Parts) true else (bif ((r3.length:Int) == 1) then (g.strings_Contains [48,49,50,51,52,53,54,55,56,57] r3 (fun r12=>(bif r12 then k0 (⟨r11.f_Base,r11.f_Prefix,r11.f_Suffix,2,r3⟩:G_Parts) true else (g.R_begin r3 (fun r13=>(bif r13 then k0 (⟨r11.f_Base,r11.f_Prefix,r11.f_Suffix,1,r3⟩:G_Parts) true else k0 (⟨[],[],[],0,[]⟩:G_Parts) false)))))) else (g.R_begin r3 (fun r14=>(bif r14 then k0 (⟨r11.f_Base,r11.f_Prefix,r11.f_Suffix,1,r3⟩:G_Parts) true else k0 (⟨[],[],[],0,[]⟩:G_Parts) false)))))))))))))))) else (g.R_baseAt r2 (fun r15=>(bif (decide (r15 < 0)) then k0 (⟨[],[],[],0,[]⟩:G_Parts) false else (g.z70z r2 (fun r16=>(bif (r3 == [112]) then k0 (⟨r16.f_Base,r16.f_Prefix,r16.f_Suffix,3,r16.f_Added⟩:G_Parts) true else (bif (r3 == [109]) then k0 (⟨r16.f_Base,r16.f_Prefix,r16.f_Suffix,4,r16.f_Added⟩:G_Parts) true else (bif (r3 == [109,109]) then k0 (⟨r16.f_Base,r16.f_Prefix,r16.f_Suffix,5,r16.f_Added⟩:G_Parts) true else (bif (r3 == [97,109]) then k0 (⟨r16.f_Base,r16.f_Prefix,r16.f_Suffix,6,r16.f_Added⟩:G_Parts) true else (bif ((r3.length:Int) == 1) then (g.strings_Contains [48,49,50,51,52,53,54,55,56,57] r3 (fun r17=>(bif r17 then k0 (⟨r16.f_Base,r16.f_Prefix,r16.f_Suffix,2,r3⟩:G_Parts) true else (g.R_begin r3 (fun r18=>(bif r18 then k0 (⟨r16.f_Base,r16.f_Prefix,r16.f_Suffix,1,r3⟩:G_Parts) true else k0 (⟨[],[],[],0,[]⟩:G_Parts) false)))))) else (g.R_begin r3 (fun r19=>(bif r19 then k0 (⟨r16.f_Base,r16.f_Prefix,r16.f_Suffix,1,r3⟩:G_Parts) true else k0 (⟨[],[],[],0,[]⟩:G_Parts) false))))))))))))))))))))
noncomputable def ya8y [Fuel]:C_R_PartsOf:=⟨NN,@z22z _,@z70z _,@R_baseAt _,@R_begin _,@strings_Contains _⟩
noncomputable def R_PartsOf [Fuel]:yjcy:=@yhKy ya8y
def yfAy (g:yjcy):Spec A:=fun args=>match args with | [.d (.str a1)]=>fun k=>g a1 (fun z0 z1=>k (.tup [.agg [.d (.str z0.f_Base),.d (.str z0.f_Prefix),.d (.str z0.f_Suffix),.d (.int .i64 z0.f_Kind),.d (.str z0.f_Added)],.d (.bool z1)]) [.undef]) | _=>fun _=>none
noncomputable def yDey:Code:=(Tryz.f140.body).getD .skip
noncomputable def yxly (g:C_R_PartsOf):Env A:=mkE [(128,yhRy g.z22z),(181,ynmy g.z70z),(182,yeAy g.R_baseAt),(183,yhny g.R_begin),(184,ycry g.strings_Contains)] [(2,[0]),(8,[1]),(9,[2])] [] [] [] [] [] [] [] []
theorem ytOy (g:C_R_PartsOf):Same (yfAy (@yhKy g)) (abody (yxly g) Tryz.f140 yDey 3 [] [.asis,.asis] g.N):=by intro args;unfold yfAy;split;exact .inr fun R k=>(by kernel_rfl);exact .inl fun R k=>rfl
theorem yuMy [Fuel]:Ok 140 (yfAy (@R_PartsOf _)):=yacy std (.cons ynhy (.cons yHfy (.cons yoty (.cons yz8y (.cons ylPy .nil))))) ⟨rfl,rfl,by kernel_rfl,rfl,rfl,rfl⟩ (ytOy ya8y) (cuts0 (fun _=>rfl) (by kernel_rfl)) Tryz.func140 (by kernel_rfl) (by kernel_rfl)
abbrev yoUy:Type 1:=List UInt8→{R:Type}→(Bool→Option R)→Option R
structure C_Q_Call where
 N:Nat
 R_PartsOf:yjcy
def yyiy (g:C_Q_Call) (a1:List UInt8) {R:Type} (k0:Bool→Option R):Option R :=
 (g.R_PartsOf a1 (fun r2 r3=>k0 r3))
noncomputable def ykzy [Fuel]:C_Q_Call:=⟨NN,@R_PartsOf _⟩
noncomputable def Q_Call [Fuel]:yoUy:=@yyiy ykzy
def yi0y (g:yoUy):Spec A:=fun args=>match args with | [.d (.str a1)]=>fun k=>g a1 (fun z0=>k (.d (.bool z0)) [.undef]) | _=>fun _=>none
noncomputable def yHwy:Code:=(Tryz.f84.body).getD .skip
noncomputable def yDky (g:C_Q_Call):Env A:=mkE [(140,yfAy g.R_PartsOf)] [(3,[0])] [] [] [] [] [] [] [] []
theorem yANy (g:C_Q_Call):Same (yi0y (@yyiy g)) (abody (yDky g) Tryz.f84 yHwy 1 [] [.asis] g.N):=by intro args;unfold yi0y;split;exact .inr fun R k=>(by kernel_rfl);exact .inl fun R k=>rfl
theorem ysDy [Fuel]:Ok 84 (yi0y (@Q_Call _)):=yacy std (.cons yuMy .nil) ⟨rfl,rfl,by kernel_rfl,rfl,rfl,rfl⟩ (yANy ykzy) (cuts0 (fun _=>rfl) (by kernel_rfl)) Tryz.func84 (by kernel_rfl) (by kernel_rfl)
abbrev ytty:Type 1:=G_Contact→{R:Type}→(Int→Option R)→Option R
structure C_z58z where
 N:Nat
 Q_Moment:yhly
 Q_in:yjHy
 Q_Call:yoUy
 Q_Key:ynPy
def z58z_ (g:C_z58z) (a1:G_Contact) {R:Type} (k0:Int→Option R):Option R :=
 (g.Q_Moment a1.f_At (fun r2=>(bif (!r2) then k0 1 else (g.Q_in a1.f_Mode 1 3 (fun r3=>(bif (!r3) then k0 4 else (g.Q_Key a1.f_Band (fun r4=>(bif (!r4) then k0 5 else (g.Q_Call a1.f_Call (fun r5=>(bif (!r5) then k0 3 else (g.Q_in a1.f_Sent 0 99999 (fun r6=>(bif (!r6) then k0 1 else (g.Q_in a1.f_Heard 0 99999 (fun r7=>(bif (!r7) then k0 1 else (bif (!(a1.f_Gave == [])) then (g.Q_Key a1.f_Gave (fun r8=>(bif (!r8) then k0 5 else (bif (!(a1.f_Got == [])) then (g.Q_Key a1.f_Got (fun r9=>(bif (!r9) then k0 5 else k0 0))) else k0 0)))) else (bif (!(a1.f_Got == [])) then (g.Q_Key a1.f_Got (fun r10=>(bif (!r10) then k0 5 else k0 0))) else k0 0))))))))))))))))))))
noncomputable def ypxy [Fuel]:C_z58z:=⟨NN,@Q_Moment _,@Q_in _,@Q_Call _,@Q_Key _⟩
noncomputable def z58z [Fuel]:ytty:=@z58z_ ypxy
def yn7y (g:ytty):Spec A:=fun args=>match args with | [.agg [.d (.int .i64 a1),.d (.int .i64 a2),.d (.str a3),.d (.str a4),.d (.int .i64 a5),.d (.int .i64 a6),.d (.str a7),.d (.str a8)]]=>fun k=>g ⟨a1,a2,a3,a4,a5,a6,a7,a8⟩ (fun z0=>k (.d (.int .i64 z0)) [.undef]) | _=>fun _=>none
noncomputable def yHGy:Code:=(Tryz.f58.body).getD .skip
noncomputable def yIPy (g:C_z58z):Env A:=mkE [(82,yewy g.Q_Moment),(83,ygby g.Q_in),(84,yi0y g.Q_Call),(85,yiqy g.Q_Key)] [(1,[0])] [] [] [] [] [] [] [] []
theorem yHcy (g:C_z58z):Same (yn7y (@z58z_ g)) (abody (yIPy g) Tryz.f58 yHGy 1 [] [.asis] g.N):=by intro args;unfold yn7y;split;exact .inr fun R k=>(by kernel_rfl);exact .inl fun R k=>rfl
theorem yE8y [Fuel]:Ok 58 (yn7y (@z58z _)):=yacy std (.cons yony (.cons yn0y (.cons ysDy (.cons ykZy .nil)))) ⟨rfl,rfl,by kernel_rfl,rfl,rfl,rfl⟩ (yHcy ypxy) (cuts0 (fun _=>rfl) (by kernel_rfl)) Tryz.func58 (by kernel_rfl) (by kernel_rfl)
abbrev yvay:Type 1:=G_Deed→{R:Type}→(Int→Option R)→Option R
structure C_z49z where
 N:Nat
 z58z:ytty
 Q_Moment:yhly
 Q_in:yjHy
 Q_Key:ynPy
def z49z_ (g:C_z49z) (a1:G_Deed) {R:Type} (k0:Int→Option R):Option R :=
 (g.Q_Key a1.f_Site (fun r2=>(bif (!r2) then k0 5 else (g.Q_in a1.f_No 1 1000000 (fun r3=>(bif (!r3) then k0 1 else (g.Q_Moment a1.f_At (fun r4=>(bif (!r4) then k0 1 else (g.Q_in a1.f_Kind 1 5 (fun r5=>(bif (!r5) then k0 4 else (bif (a1.f_Kind == 1) then (g.z58z a1.f_Contact (fun r6=>(bif (r6 != 0) then k0 r6 else (bif (decide (a1.f_Contact.f_At > a1.f_At)) then k0 1 else (bif (!(yaoy a1 (⟨a1.f_Site,a1.f_No,a1.f_At,a1.f_Kind,a1.f_Contact,[],[],0⟩:G_Deed))) then k0 3 else k0 0))))) else (bif (a1.f_Kind == 2) then (g.Q_Key a1.f_Band (fun r7=>(bif (!r7) then k0 5 else (bif (!(yaoy a1 (⟨a1.f_Site,a1.f_No,a1.f_At,a1.f_Kind,(⟨0,0,[],[],0,0,[],[]⟩:G_Contact),a1.f_Band,[],0⟩:G_Deed))) then k0 3 else k0 0)))) else (bif (a1.f_Kind == 5) then (g.Q_Key a1.f_Of (fun r8=>(bif (!r8) then k0 5 else (g.Q_in a1.f_Other 1 1000000 (fun r9=>(bif (!r9) then k0 1 else (bif (!(yaoy a1 (⟨a1.f_Site,a1.f_No,a1.f_At,a1.f_Kind,(⟨0,0,[],[],0,0,[],[]⟩:G_Contact),[],a1.f_Of,a1.f_Other⟩:G_Deed))) then k0 3 else k0 0))))))) else (g.Q_in a1.f_Contact.f_Sent 1 99999 (fun r10=>(bif (!r10) then k0 1 else (bif (!(yaoy a1 (⟨a1.f_Site,a1.f_No,a1.f_At,a1.f_Kind,(⟨0,0,[],[],a1.f_Contact.f_Sent,0,[],[]⟩:G_Contact),[],[],0⟩:G_Deed))) then k0 3 else k0 0)))))))))))))))))))
noncomputable def yicy [Fuel]:C_z49z:=⟨NN,@z58z _,@Q_Moment _,@Q_in _,@Q_Key _⟩
noncomputable def z49z [Fuel]:yvay:=@z49z_ yicy
def ynQy (g:yvay):Spec A:=fun args=>match args with | [.agg [.d (.str a1),.d (.int .i64 a2),.d (.int .i64 a3),.d (.int .i64 a4),.d (.int .i64 a5),.d (.int .i64 a6),.d (.str a7),.d (.str a8),.d (.int .i64 a9),.d (.int .i64 a10),.d (.str a11),.d (.str a12),.d (.str a13),.d (.str a14),.d (.int .i64 a15)]]=>fun k=>g ⟨a1,a2,a3,a4,⟨a5,a6,a7,a8,a9,a10,a11,a12⟩,a13,a14,a15⟩ (fun z0=>k (.d (.int .i64 z0)) [.undef]) | _=>fun _=>none
noncomputable def yCPy:Code:=(Tryz.f109.body).getD .skip
noncomputable def yIZy (g:C_z49z):Env A:=mkE [(58,yn7y g.z58z),(82,yewy g.Q_Moment),(83,ygby g.Q_in),(85,yiqy g.Q_Key)] [(1,[0]),(3,[1])] [] [] [] [] [] [] [] []
theorem yGty (g:C_z49z):Same (ynQy (@z49z_ g)) (abody (yIZy g) Tryz.f109 yCPy 2 [] [.asis] g.N):=by intro args;unfold ynQy;split;exact .inr fun R k=>(by kernel_rfl);exact .inl fun R k=>rfl
theorem yyuy [Fuel]:Ok 109 (ynQy (@z49z _)):=yacy std (.cons yE8y (.cons yony (.cons yn0y (.cons ykZy .nil)))) ⟨rfl,rfl,by kernel_rfl,rfl,rfl,rfl⟩ (yGty yicy) (cuts0 (fun _=>rfl) (by kernel_rfl)) Tryz.func109 (by kernel_rfl) (by kernel_rfl)
abbrev yldy:Type 1:=G_Deed→G_Deed→{R:Type}→(Bool→Option R)→Option R
def yshy (g:Nat) (a1 a2:G_Deed) {R:Type} (k0:Bool→Option R):Option R :=
 (bif (a1.f_Site == a2.f_Site) then k0 (a1.f_No == a2.f_No) else k0 false)
noncomputable def Q_sameNo [Fuel]:yldy:=@yshy NN
def ygDy (g:yldy):Spec A:=fun args=>match args with | [.agg [.d (.str a1),.d (.int .i64 a2),.d (.int .i64 a3),.d (.int .i64 a4),.d (.int .i64 a5),.d (.int .i64 a6),.d (.str a7),.d (.str a8),.d (.int .i64 a9),.d (.int .i64 a10),.d (.str a11),.d (.str a12),.d (.str a13),.d (.str a14),.d (.int .i64 a15)],.agg [.d (.str a16),.d (.int .i64 a17),.d (.int .i64 a18),.d (.int .i64 a19),.d (.int .i64 a20),.d (.int .i64 a21),.d (.str a22),.d (.str a23),.d (.int .i64 a24),.d (.int .i64 a25),.d (.str a26),.d (.str a27),.d (.str a28),.d (.str a29),.d (.int .i64 a30)]]=>fun k=>g ⟨a1,a2,a3,a4,⟨a5,a6,a7,a8,a9,a10,a11,a12⟩,a13,a14,a15⟩ ⟨a16,a17,a18,a19,⟨a20,a21,a22,a23,a24,a25,a26,a27⟩,a28,a29,a30⟩ (fun z0=>k (.d (.bool z0)) [.undef,.undef]) | _=>fun _=>none
noncomputable def yDay:Code:=(Tryz.f112.body).getD .skip
noncomputable def yzCy (g:Nat):Env A:=mkE [] [(2,[0]),(3,[1])] [] [] [] [] [] [] [] []
theorem yxay (g:Nat):Same (ygDy (@yshy g)) (abody (yzCy g) Tryz.f112 yDay 2 [] [.asis] g):=by intro args;unfold ygDy;split;exact .inr fun R k=>(by kernel_rfl);exact .inl fun R k=>rfl
theorem yxAy [Fuel]:Ok 112 (ygDy (@Q_sameNo _)):=yacy std .nil ⟨rfl,rfl,by kernel_rfl,rfl,rfl,rfl⟩ (yxay NN) (cuts0 (fun _=>rfl) (by kernel_rfl)) Tryz.func112 (by kernel_rfl) (by kernel_rfl)
end Go.Am
