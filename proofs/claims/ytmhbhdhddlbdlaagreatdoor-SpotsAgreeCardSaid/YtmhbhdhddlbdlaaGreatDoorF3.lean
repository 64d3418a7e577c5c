/- The functions of the program as Lean functions, each shown to be what the code computes, part 3. No condition: lemmas for the claim. -/
import Derived.Test.YtmhbhdhddlbdlaaGreatDoorF0
import Derived.Test.YtmhbhdhddlbdlaaGreatDoorFSh
import Derived.Test.YtmhbhdhddlbdlaaGreatDoorF1
import Derived.Test.YtmhbhdhddlbdlaaGreatDoorF2
set_option linter.unusedVariables false
set_option maxRecDepth 100000
namespace Go.Am
open Go Go.Proofs
abbrev T_z8z:Type 1:=List UInt8→{R:Type}→(Int→Int→Option R)→Option R
structure C_z8z where
 N:Nat
 z52z:yu3y
 z87z:ywCy
def z8z_L10 (g:C_z8z):Nat→List UInt8→Int→Int→Int→{R:Type}→(List UInt8→Int→Int→Option R)→Option R
 | 0,_,_,_,_,_,_=>none
 | n + 1,v3,v4,v5,v6,_,e0=>(bif (decide (v5 ≥ v6)) then (get_ v3 v5 fun x8=>(g.z87z (x8.toNat:Int))) else e0 v3 v4 v5)
def z8z_ (g:C_z8z) (a1:List UInt8) {R:Type} (k0:Int→Int→Option R):Option R :=
 (bif ((a1.length:Int) == 0) then k0 65533 0 else (get_ a1 (w64 ((a1.length:Int) - 1)) fun x2=>(bif (decide ((IntKind.i32.wrap (x2.toNat:Int)) < 128)) then k0 (IntKind.i32.wrap (x2.toNat:Int)) 1 else (z8z_L10 g g.N a1 (a1.length:Int) (w64 ((w64 ((a1.length:Int) - 1)) - 1)) (if 0 > (w64 ((a1.length:Int) - 4)) then 0 else (w64 ((a1.length:Int) - 4))) (fun e9 e10 e11=>(bif (decide (e11 < 0)) then (bif (decide (0≤0) && (decide (0≤e10) && decide (e10≤(e9.length:Int)))) then (g.z52z ((e9.take (e10:Int).toNat).drop (0:Int).toNat) (fun r12 r13=>(bif ((w64 (0 + r13)) != e10) then k0 65533 1 else k0 r12 r13))) else none) else (bif (decide (0≤e11) && (decide (e11≤e10) && decide (e10≤(e9.length:Int)))) then (g.z52z ((e9.take (e10:Int).toNat).drop (e11:Int).toNat) (fun r14 r15=>(bif ((w64 (e11 + r15)) != e10) then k0 65533 1 else k0 r14 r15))) else none)))))))
noncomputable def I_z8z [Fuel]:C_z8z:=⟨NN,@z52z _,@z87z _⟩
noncomputable def z8z [Fuel]:T_z8z:=@z8z_ I_z8z
def yq9y (g:T_z8z):Spec A:=fun args=>match args with | [.d (.str a1)]=>fun k=>g a1 (fun z0 z1=>k (.tup [.d (.int .i32 z0),.d (.int .i64 z1)]) [.undef]) | _=>fun _=>none
def yk1y:SSt:=mkSh 51 0 [(0,.str),(4,.int .i64),(5,.int .i64),(6,.int .i64)] []
def yeJy (g:C_z8z) (n:Nat):LPT A:=fun ps=>match ps with | [.d (.str p1),.d (.int .i64 p2),.d (.int .i64 p3),.d (.int .i64 p4)]=>fun K=>z8z_L10 g n p1 p2 p3 p4 (fun z0 z1 z2=>K (.exit 0) (mkSt 51 0 [(0,.d (.str z0)),(4,.d (.int .i64 z1)),(5,.d (.int .i64 z2))] [])) | _=>fun _=>none
noncomputable def yw6y:Code:=(Tryz.f240.body).getD .skip
noncomputable def E_z8z (g:C_z8z):Env A:=mkE [(234,ynmy g.z52z),(270,ynby g.z87z)] [] [(10,⟨[0,4,5,6],[],[],[],[],[],[]⟩)] [(10,⟨[0,4,5],[],[],[],[],[],[]⟩)] [(10,yafy yk1y (yeJy g g.N))] [] [] [] [] []
theorem yKTy [Fuel]:yagy (E_z8z I_z8z).C:=ct_of (P:=Tryz.prog) (T:=T) (.cons yyTy (.cons yzKy .nil)) (by kernel_rfl)
noncomputable def yqJy:Code:=sub [1,1,1,1,1,1,1,0,1,0,0] yw6y
theorem yDsy (g:C_z8z) (n:Nat):yaly (E_z8z g) g.N yqJy yk1y (yeJy g) n:=by intro ps; unfold yeJy; split; exact .inr fun R K=>(by kernel_rfl); exact .inl fun R K=>rfl
theorem yAJy [Fuel]:yaey (E_z8z I_z8z) NN yqJy:=yahy yk1y (yeJy I_z8z) (by kernel_rfl) yKTy (cuts0 (fun _=>rfl) (by kernel_rfl)) (fun ps R K=>by unfold yeJy; split <;> (try unfold z8z_L10) <;> rfl) (yDsy I_z8z)
theorem yLFy (g:C_z8z):Same (yq9y (@z8z_ g)) (abody (E_z8z g) Tryz.f240 yw6y 0 [] [.asis,.asis] g.N):=by intro args; unfold yq9y; split; exact .inr fun R k=>(by kernel_rfl); exact .inl fun R k=>rfl
theorem yDny [Fuel]:Ok 240 (yq9y (@z8z _)):=yaay std (.cons yyTy (.cons yzKy .nil)) ⟨rfl,rfl,by kernel_rfl,rfl,rfl,rfl⟩ (yLFy I_z8z) (cutsL (fun _=>rfl) (.cons yAJy .nil) (by kernel_rfl)) Tryz.func240 (by kernel_rfl) (by kernel_rfl)
abbrev T_z4z:Type 1:=List UInt8→List UInt8→{R:Type}→(Int→Option R)→Option R
structure C_z4z where
 N:Nat
 strings_makeASCIISet:ycqy
 z8z:T_z8z
 strings_IndexRune:yc8y
 strings_shouldUseASCIISet:ybIy
def z4z_L24 (g:C_z4z):Nat→List UInt8→Int→Int→{R:Type}→(Int→Option R)→Option R→Option R
 | 0,_,_,_,_,_,_=>none
 | n + 1,v8,v9,v10,_,e0,e1=>(bif (decide (v10 > 0)) then (bif (decide (0≤v10) && decide (v10≤(v8.length:Int))) then (g.z8z (v8.take (v10:Int).toNat) (fun r13 r14=>(bif (v9 == r13) then e0 (w64 (v10 - r14)) else z4z_L24 g n v8 v9 (w64 (v10 - r14)) e0 e1))) else none) else e1)
def z4z_L31 (g:C_z4z):Nat→List UInt8→List UInt8→Int→{R:Type}→(Int→Option R)→Option R→Option R
 | 0,_,_,_,_,_,_=>none
 | n + 1,v17,v18,v19,_,e0,e1=>(bif (decide (v19 > 0)) then (bif (decide (0≤v19) && decide (v19≤(v17.length:Int))) then (g.z8z (v17.take (v19:Int).toNat) (fun r23 r24=>(g.strings_IndexRune v18 r23 (fun r25=>(bif (decide (r25 ≥ 0)) then e0 (w64 (v19 - r24)) else z4z_L31 g n v17 v18 (w64 (v19 - r24)) e0 e1))))) else none) else e1)
def z4z_ (g:C_z4z) (a1 a2:List UInt8) {R:Type} (k0:Int→Option R):Option R :=
 (bif (a2 == []) then k0 (-1) else (bif ((a1.length:Int) == 1) then (at_ a1 0 fun x3=>(bif (decide ((IntKind.i32.wrap (x3.toNat:Int)) ≥ 128)) then (g.strings_IndexRune a2 65533 (fun r4=>(bif (decide (r4 ≥ 0)) then k0 0 else k0 (-1)))) else (g.strings_IndexRune a2 (IntKind.i32.wrap (x3.toNat:Int)) (fun r5=>(bif (decide (r5 ≥ 0)) then k0 0 else k0 (-1)))))) else (g.strings_shouldUseASCIISet (a1.length:Int) (fun r6=>(bif r6 then (g.strings_makeASCIISet a2) else (bif ((a2.length:Int) == 1) then (at_ a2 0 fun x7=>(bif (decide ((IntKind.i32.wrap (x7.toNat:Int)) ≥ 128)) then (z4z_L24 g g.N a1 65533 (a1.length:Int) (fun e15=>k0 e15) (k0 (-1))) else (z4z_L24 g g.N a1 (IntKind.i32.wrap (x7.toNat:Int)) (a1.length:Int) (fun e16=>k0 e16) (k0 (-1))))) else (z4z_L31 g g.N a1 a2 (a1.length:Int) (fun e26=>k0 e26) (k0 (-1)))))))))
noncomputable def I_z4z [Fuel]:C_z4z:=⟨NN,@strings_makeASCIISet _,@z8z _,@strings_IndexRune _,@strings_shouldUseASCIISet _⟩
noncomputable def z4z [Fuel]:T_z4z:=@z4z_ I_z4z
def ypNy (g:T_z4z):Spec A:=fun args=>match args with | [.d (.str a1),.d (.str a2)]=>fun k=>g a1 a2 (fun z0=>k (.d (.int .i64 z0)) [.undef,.undef]) | _=>fun _=>none
def ykuy:SSt:=mkSh 96 0 [(0,.str),(9,.int .i32),(10,.int .i64)] []
def yfCy (g:C_z4z) (n:Nat):LPT A:=fun ps=>match ps with | [.d (.str p1),.d (.int .i32 p2),.d (.int .i64 p3)]=>fun K=>z4z_L24 g n p1 p2 p3 (fun z0=>K .ret (mkSt 96 0 [(4,.d (.int .i64 z0))] [])) (K (.exit 2) (mkSt 96 0 [] [])) | _=>fun _=>none
def yk5y:SSt:=mkSh 96 0 [(0,.str),(1,.str),(13,.int .i64)] []
def yeIy (g:C_z4z) (n:Nat):LPT A:=fun ps=>match ps with | [.d (.str p1),.d (.str p2),.d (.int .i64 p3)]=>fun K=>z4z_L31 g n p1 p2 p3 (fun z0=>K .ret (mkSt 96 0 [(4,.d (.int .i64 z0))] [])) (K (.exit 4) (mkSt 96 0 [] [])) | _=>fun _=>none
noncomputable def ykNy:Code:=(Tryz.f220.body).getD .skip
noncomputable def E_z4z (g:C_z4z):Env A:=mkE [(195,ybzy g.strings_makeASCIISet),(240,yq9y g.z8z),(260,yeLy g.strings_IndexRune),(261,ybcy g.strings_shouldUseASCIISet)] [] [(24,⟨[0,9,10],[],[],[],[],[],[]⟩),(31,⟨[0,1,13],[],[],[],[],[],[]⟩)] [(24,⟨[4],[],[],[],[],[],[]⟩),(31,⟨[4],[],[],[],[],[],[]⟩)] [(24,yafy ykuy (yfCy g g.N)),(31,yafy yk5y (yeIy g g.N))] [] [] [] [] []
theorem yBFy [Fuel]:yagy (E_z4z I_z4z).C:=ct_of (P:=Tryz.prog) (T:=T) (.cons ydHy (.cons yDny (.cons yePy (.cons ycHy .nil)))) (by kernel_rfl)
noncomputable def yA0y:Code:=sub [1,1,1,0,1,0,1,1,0,0,1,0,0] ykNy
theorem yz8y [Fuel]:yaey (E_z4z I_z4z) NN yA0y:=ynoy (by kernel_rfl)
noncomputable def ypWy:Code:=sub [1,1,1,1,0,1,0,1,1,0,1,0,0] ykNy
theorem yCwy (g:C_z4z) (n:Nat):yaly (E_z4z g) g.N ypWy ykuy (yfCy g) n:=by intro ps; unfold yfCy; split; exact .inr fun R K=>(by kernel_rfl); exact .inl fun R K=>rfl
theorem yAAy [Fuel]:yaey (E_z4z I_z4z) NN ypWy:=yahy ykuy (yfCy I_z4z) (by kernel_rfl) yBFy (cuts0 (fun _=>rfl) (by kernel_rfl)) (fun ps R K=>by unfold yfCy; split <;> (try unfold z4z_L24) <;> rfl) (yCwy I_z4z)
noncomputable def ypXy:Code:=sub [1,1,1,1,1,0,1,0,0] ykNy
theorem yDqy (g:C_z4z) (n:Nat):yaly (E_z4z g) g.N ypXy yk5y (yeIy g) n:=by intro ps; unfold yeIy; split; exact .inr fun R K=>(by kernel_rfl); exact .inl fun R K=>rfl
theorem yAzy [Fuel]:yaey (E_z4z I_z4z) NN ypXy:=yahy yk5y (yeIy I_z4z) (by kernel_rfl) yBFy (cuts0 (fun _=>rfl) (by kernel_rfl)) (fun ps R K=>by unfold yeIy; split <;> (try unfold z4z_L31) <;> rfl) (yDqy I_z4z)
theorem yLly (g:C_z4z):Same (ypNy (@z4z_ g)) (abody (E_z4z g) Tryz.f220 ykNy 0 [] [.asis] g.N):=by intro args; unfold ypNy; split; exact .inr fun R k=>(by kernel_rfl); exact .inl fun R k=>rfl
theorem yDay [Fuel]:Ok 220 (ypNy (@z4z _)):=yaay std (.cons ydHy (.cons yDny (.cons yePy (.cons ycHy .nil)))) ⟨rfl,rfl,by kernel_rfl,rfl,rfl,rfl⟩ (yLly I_z4z) (cutsL (fun _=>rfl) (.cons yz8y (.cons yAAy (.cons yAzy .nil))) (by kernel_rfl)) Tryz.func220 (by kernel_rfl) (by kernel_rfl)
abbrev T_z3z:Type 1:=List UInt8→List UInt8→{R:Type}→(Int→Option R)→Option R
noncomputable def z3z [Fuel]:T_z3z:=X_lia (@z4z _)
def yvZy (g:T_z3z):Spec A:=yjwy g
theorem yDzy [Fuel] (a b:List UInt8) (R:Type) (k:IV A→List (IV A)→Option R):ypNy (@z4z _) [.d (.str a),.d (.str b)] k = @z4z _ a b R (fun z=>k (.d (.int .i64 z)) [.undef,.undef]):=by kernel_rfl
theorem yDCy [Fuel]:Ok 220 (yvZy (@z3z _)):=⟨yJ5y (yBTy rfl (fun s c w h1 h2 h3 h4 h5=>(Go.Proofs.Tryz.lia s c w h1 h2 h3 h4 h5).mono (fun e w h=>⟨h.1,_,_,_,_,h.2⟩))) yDay.fs yDzy,yKly yDay.na yDzy,enters_of (fn:=Tryz.f220) Tryz.func220 (by kernel_rfl) (by kernel_rfl)⟩
abbrev ypoy:Type 1:=Int→Int→Int→{R:Type}→(Bool→Option R)→Option R
def R_in_ (g:Nat) (a1 a2 a3:Int) {R:Type} (k0:Bool→Option R):Option R :=
 (bif (decide (a2≤a1)) then k0 (decide (a1≤a3)) else k0 false)
noncomputable def R_in [Fuel]:ypoy:=@R_in_ NN
def yjqy (g:ypoy):Spec A:=fun args=>match args with | [.d (.int .i64 a1),.d (.int .i64 a2),.d (.int .i64 a3)]=>fun k=>g a1 a2 a3 (fun z0=>k (.d (.bool z0)) [.undef,.undef,.undef]) | _=>fun _=>none
noncomputable def yE8y:Code:=(Tryz.f222.body).getD .skip
noncomputable def yKOy (g:Nat):Env A:=mkE [] [] [] [] [] [] [] [] [] []
theorem yGsy (g:Nat):Same (yjqy (@R_in_ g)) (abody (yKOy g) Tryz.f222 yE8y 0 [] [.asis] g):=by intro args; unfold yjqy; split; exact .inr fun R k=>(by kernel_rfl); exact .inl fun R k=>rfl
theorem yz2y [Fuel]:Ok 222 (yjqy (@R_in _)):=yaay std .nil ⟨rfl,rfl,by kernel_rfl,rfl,rfl,rfl⟩ (yGsy NN) (cuts0 (fun _=>rfl) (by kernel_rfl)) Tryz.func222 (by kernel_rfl) (by kernel_rfl)
abbrev ycFy:Type 1:=List UInt8→List UInt8→{R:Type}→(List UInt8→Option R)→Option R
def strings_Trim [Fuel]:ycFy:=@ypBy
def ydby (g:ycFy):Spec A:=yh8y g
theorem ye9y [Fuel]:Ok 129 (ydby (@strings_Trim _)):=⟨yr4y (yAiy rfl (fun s cs w h1 h2 h3=>Any.strings_Trim_laid Tryz.lays160 (by kernel_rfl) s cs w h1 h2 h3)),yuzy,enters_of (fn:=Tryz.f129) Tryz.func129 (by kernel_rfl) (by kernel_rfl)⟩
abbrev ybOy:Type 1:=List UInt8→List UInt8→{R:Type}→(Bool→Option R)→Option R
def strings_ContainsAny [Fuel]:ybOy:=@ypsy
def ycpy (g:ybOy):Spec A:=yhWy g
theorem ydSy [Fuel]:Ok 223 (ycpy (@strings_ContainsAny _)):=⟨yrUy (yAPy rfl (fun s cs w h1 h2 h3 h4=>Any.strings_ContainsAny_laid Tryz.lays150 (by kernel_rfl) s cs w h1 h2 h3 h4)),ytLy,enters_of (fn:=Tryz.f223) Tryz.func223 (by kernel_rfl) (by kernel_rfl)⟩
abbrev yisy:Type 1:=List UInt8→Int→Int→{R:Type}→(Bool→Option R)→Option R
structure C_R_plain where
 N:Nat
 strings_Trim:ycFy
 R_in:ypoy
 strings_ContainsAny:ybOy
def yvQy (g:C_R_plain) (a1:List UInt8) (a2 a3:Int) {R:Type} (k0:Bool→Option R):Option R :=
 (g.R_in (a1.length:Int) a2 a3 (fun r4=>(bif r4 then (g.strings_Trim a1 [97,98,99,100,101,102,103,104,105,106,107,108,109,110,111,112,113,114,115,116,117,118,119,120,121,122,48,49,50,51,52,53,54,55,56,57] (fun r5=>(bif (r5 == []) then (g.strings_ContainsAny a1 [97,98,99,100,101,102,103,104,105,106,107,108,109,110,111,112,113,114,115,116,117,118,119,120,121,122] (fun r6=>k0 r6)) else k0 false))) else k0 false)))
noncomputable def ysIy [Fuel]:C_R_plain:=⟨NN,@strings_Trim _,@R_in _,@strings_ContainsAny _⟩
noncomputable def R_plain [Fuel]:yisy:=@yvQy ysIy
def ye1y (g:yisy):Spec A:=fun args=>match args with | [.d (.str a1),.d (.int .i64 a2),.d (.int .i64 a3)]=>fun k=>g a1 a2 a3 (fun z0=>k (.d (.bool z0)) [.undef,.undef,.undef]) | _=>fun _=>none
noncomputable def yD8y:Code:=(Tryz.f221.body).getD .skip
noncomputable def yC3y (g:C_R_plain):Env A:=mkE [(129,ydby g.strings_Trim),(222,yjqy g.R_in),(223,ycpy g.strings_ContainsAny)] [] [] [] [] [] [] [] [] []
theorem yz5y (g:C_R_plain):Same (ye1y (@yvQy g)) (abody (yC3y g) Tryz.f221 yD8y 0 [] [.asis] g.N):=by intro args; unfold ye1y; split; exact .inr fun R k=>(by kernel_rfl); exact .inl fun R k=>rfl
theorem yply [Fuel]:Ok 221 (ye1y (@R_plain _)):=yaay std (.cons ye9y (.cons yz2y (.cons ydSy .nil))) ⟨rfl,rfl,by kernel_rfl,rfl,rfl,rfl⟩ (yz5y ysIy) (cuts0 (fun _=>rfl) (by kernel_rfl)) Tryz.func221 (by kernel_rfl) (by kernel_rfl)
abbrev yhfy:Type 1:=List UInt8→{R:Type}→(Int→Option R)→Option R
structure C_R_baseAt where
 N:Nat
 z3z:T_z3z
 R_plain:yisy
 R_in:ypoy
 strings_ContainsAny:ybOy
def ysFy (g:C_R_baseAt) (a1:List UInt8) {R:Type} (k0:Int→Option R):Option R :=
 (g.z3z a1 [48,49,50,51,52,53,54,55,56,57] (fun r2=>(g.R_plain a1 3 10 (fun r3=>(bif (!r3) then k0 (-1) else (g.R_in r2 1 3 (fun r4=>(bif (!r4) then k0 (-1) else (g.R_in (w64 ((w64 ((a1.length:Int) - 1)) - r2)) 1 4 (fun r5=>(bif (!r5) then k0 (-1) else (bif (decide (0≤r2) && decide (r2≤(a1.length:Int))) then (g.strings_ContainsAny (a1.take (r2:Int).toNat) [97,98,99,100,101,102,103,104,105,106,107,108,109,110,111,112,113,114,115,116,117,118,119,120,121,122] (fun r6=>(bif (!r6) then k0 (-1) else k0 r2))) else none))))))))))))
noncomputable def yqpy [Fuel]:C_R_baseAt:=⟨NN,@z3z _,@R_plain _,@R_in _,@strings_ContainsAny _⟩
noncomputable def R_baseAt [Fuel]:yhfy:=@ysFy yqpy
def ydKy (g:yhfy):Spec A:=fun args=>match args with | [.d (.str a1)]=>fun k=>g a1 (fun z0=>k (.d (.int .i64 z0)) [.undef]) | _=>fun _=>none
noncomputable def yE4y:Code:=(Tryz.f171.body).getD .skip
noncomputable def yAEy (g:C_R_baseAt):Env A:=mkE [(220,yvZy g.z3z),(221,ye1y g.R_plain),(222,yjqy g.R_in),(223,ycpy g.strings_ContainsAny)] [] [] [] [] [] [] [] [] []
theorem yxEy (g:C_R_baseAt):Same (ydKy (@ysFy g)) (abody (yAEy g) Tryz.f171 yE4y 0 [] [.asis] g.N):=by intro args; unfold ydKy; split; exact .inr fun R k=>(by kernel_rfl); exact .inl fun R k=>rfl
theorem yopy [Fuel]:Ok 171 (ydKy (@R_baseAt _)):=yaay std (.cons yDCy (.cons yply (.cons yz2y (.cons ydSy .nil)))) ⟨rfl,rfl,by kernel_rfl,rfl,rfl,rfl⟩ (yxEy yqpy) (cuts0 (fun _=>rfl) (by kernel_rfl)) Tryz.func171 (by kernel_rfl) (by kernel_rfl)
abbrev yvsy:Type 1:=List UInt8→{R:Type}→(G_Parts→Option R)→Option R
structure C_z83z where
 N:Nat
 R_baseAt:yhfy
def z83z_ (g:C_z83z) (a1:List UInt8) {R:Type} (k0:G_Parts→Option R):Option R :=
 (g.R_baseAt a1 (fun r2=>(bif (decide (0≤(w64 (r2 + 1))) && decide ((w64 (r2 + 1))≤(a1.length:Int))) then (bif (decide (0≤(w64 (r2 + 1))) && decide ((w64 (r2 + 1))≤(a1.length:Int))) then k0 (⟨a1,(a1.take ((w64 (r2 + 1)):Int).toNat),(a1.drop ((w64 (r2 + 1)):Int).toNat),0,[]⟩:G_Parts) else none) else none)))
noncomputable def yB3y [Fuel]:C_z83z:=⟨NN,@R_baseAt _⟩
noncomputable def z83z [Fuel]:yvsy:=@z83z_ yB3y
def ynNy (g:yvsy):Spec A:=fun args=>match args with | [.d (.str a1)]=>fun k=>g a1 (fun z0=>k (.agg [.d (.str z0.f_Base),.d (.str z0.f_Prefix),.d (.str z0.f_Suffix),.d (.int .i64 z0.f_Kind),.d (.str z0.f_Added)]) [.undef]) | _=>fun _=>none
noncomputable def yERy:Code:=(Tryz.f170.body).getD .skip
noncomputable def yLjy (g:C_z83z):Env A:=mkE [(171,ydKy g.R_baseAt)] [(2,[0])] [] [] [] [] [] [] [] []
theorem yIBy (g:C_z83z):Same (ynNy (@z83z_ g)) (abody (yLjy g) Tryz.f170 yERy 1 [] [.asis] g.N):=by intro args; unfold ynNy; split; exact .inr fun R k=>(by kernel_rfl); exact .inl fun R k=>rfl
theorem yJGy [Fuel]:Ok 170 (ynNy (@z83z _)):=yaay std (.cons yopy .nil) ⟨rfl,rfl,by kernel_rfl,rfl,rfl,rfl⟩ (yIBy yB3y) (cuts0 (fun _=>rfl) (by kernel_rfl)) Tryz.func170 (by kernel_rfl) (by kernel_rfl)
abbrev ylRy:Type 1:=List UInt8→{R:Type}→(Bool→Option R)→Option R
structure C_R_begin where
 N:Nat
 R_plain:yisy
def yv8y (g:C_R_begin) (a1:List UInt8) {R:Type} (k0:Bool→Option R):Option R :=
 (g.R_plain a1 1 4 (fun r2=>k0 r2))
noncomputable def ysRy [Fuel]:C_R_begin:=⟨NN,@R_plain _⟩
noncomputable def R_begin [Fuel]:ylRy:=@yv8y ysRy
def yhmy (g:ylRy):Spec A:=fun args=>match args with | [.d (.str a1)]=>fun k=>g a1 (fun z0=>k (.d (.bool z0)) [.undef]) | _=>fun _=>none
noncomputable def yFky:Code:=(Tryz.f172.body).getD .skip
noncomputable def yC5y (g:C_R_begin):Env A:=mkE [(221,ye1y g.R_plain)] [] [] [] [] [] [] [] [] []
theorem yBry (g:C_R_begin):Same (yhmy (@yv8y g)) (abody (yC5y g) Tryz.f172 yFky 0 [] [.asis] g.N):=by intro args; unfold yhmy; split; exact .inr fun R k=>(by kernel_rfl); exact .inl fun R k=>rfl
theorem yBiy [Fuel]:Ok 172 (yhmy (@R_begin _)):=yaay std (.cons yply .nil) ⟨rfl,rfl,by kernel_rfl,rfl,rfl,rfl⟩ (yBry ysRy) (cuts0 (fun _=>rfl) (by kernel_rfl)) Tryz.func172 (by kernel_rfl) (by kernel_rfl)
abbrev ydcy:Type 1:=List UInt8→List UInt8→{R:Type}→(Int→Option R)→Option R
structure C_strings_Index where
 N:Nat
 stringslite_Index:ycay
def yjTy (g:C_strings_Index) (a1 a2:List UInt8) {R:Type} (k0:Int→Option R):Option R :=
 (g.stringslite_Index a1 a2 (fun r3=>k0 r3))
noncomputable def yivy [Fuel]:C_strings_Index:=⟨NN,@stringslite_Index _⟩
noncomputable def strings_Index [Fuel]:ydcy:=@yjTy yivy
def yb1y (g:ydcy):Spec A:=fun args=>match args with | [.d (.str a1),.d (.str a2)]=>fun k=>g a1 a2 (fun z0=>k (.d (.int .i64 z0)) [.undef,.undef]) | _=>fun _=>none
noncomputable def yEVy:Code:=(Tryz.f191.body).getD .skip
noncomputable def yq1y (g:C_strings_Index):Env A:=mkE [(236,ycMy g.stringslite_Index)] [] [] [] [] [] [] [] [] []
theorem yoBy (g:C_strings_Index):Same (yb1y (@yjTy g)) (abody (yq1y g) Tryz.f191 yEVy 0 [] [.asis] g.N):=by intro args; unfold yb1y; split; exact .inr fun R k=>(by kernel_rfl); exact .inl fun R k=>rfl
theorem yegy [Fuel]:Ok 191 (yb1y (@strings_Index _)):=yaay std (.cons yfyy .nil) ⟨rfl,rfl,by kernel_rfl,rfl,rfl,rfl⟩ (yoBy yivy) (cuts0 (fun _=>rfl) (by kernel_rfl)) Tryz.func191 (by kernel_rfl) (by kernel_rfl)
abbrev ydjy:Type 1:=List UInt8→List UInt8→{R:Type}→(Bool→Option R)→Option R
structure C_strings_Contains where
 N:Nat
 strings_Index:ydcy
def yhay (g:C_strings_Contains) (a1 a2:List UInt8) {R:Type} (k0:Bool→Option R):Option R :=
 (g.strings_Index a1 a2 (fun r3=>k0 (decide (r3 ≥ 0))))
noncomputable def ygKy [Fuel]:C_strings_Contains:=⟨NN,@strings_Index _⟩
noncomputable def strings_Contains [Fuel]:ydjy:=@yhay ygKy
def yb9y (g:ydjy):Spec A:=fun args=>match args with | [.d (.str a1),.d (.str a2)]=>fun k=>g a1 a2 (fun z0=>k (.d (.bool z0)) [.undef,.undef]) | _=>fun _=>none
noncomputable def yFYy:Code:=(Tryz.f173.body).getD .skip
noncomputable def ymGy (g:C_strings_Contains):Env A:=mkE [(191,yb1y g.strings_Index)] [] [] [] [] [] [] [] [] []
theorem ylyy (g:C_strings_Contains):Same (yb9y (@yhay g)) (abody (ymGy g) Tryz.f173 yFYy 0 [] [.asis] g.N):=by intro args; unfold yb9y; split; exact .inr fun R k=>(by kernel_rfl); exact .inl fun R k=>rfl
theorem ylzy [Fuel]:Ok 173 (yb9y (@strings_Contains _)):=yaay std (.cons yegy .nil) ⟨rfl,rfl,by kernel_rfl,rfl,rfl,rfl⟩ (ylyy ygKy) (cuts0 (fun _=>rfl) (by kernel_rfl)) Tryz.func173 (by kernel_rfl) (by kernel_rfl)
abbrev yiOy:Type 1:=List UInt8→{R:Type}→(G_Parts→Bool→Option R)→Option R
structure C_R_PartsOf where
 N:Nat
 z32z:ypLy
 z83z:yvsy
 R_baseAt:yhfy
 R_begin:ylRy
 strings_Contains:ydjy
def ypIy (g:C_R_PartsOf) (a1:List UInt8) {R:Type} (k0:G_Parts→Bool→Option R):Option R :=
 (g.z32z a1 [47] (fun r2 r3 r4=>(bif (decide ((a1.length:Int) > 14)) then k0 (⟨[],[],[],0,[]⟩:G_Parts) false else (bif (!r4) then (g.R_baseAt r2 (fun r5=>(bif (decide (r5 < 0)) then k0 (⟨[],[],[],0,[]⟩:G_Parts) false else (g.z83z r2 (fun r6=>k0 r6 true))))) else (g.R_baseAt r3 (fun r7=>(bif (decide (r7 ≥ 0)) then (g.R_begin r2 (fun r8=>(bif r8 then (g.z83z r3 (fun r9=>k0 (⟨r9.f_Base,r9.f_Prefix,r9.f_Suffix,1,r2⟩:G_Parts) true)) else (g.R_baseAt r2 (fun r10=>(bif (decide (r10 < 0)) then k0 (⟨[],[],[],0,[]⟩:G_Parts) false else (g.z83z r2 (fun r11=>(bif (r3 == [112]) then k0 (⟨r11.f_Base,r11.f_Prefix,r11.f_Suffix,3,r11.f_Added⟩:G_Parts) true else (bif (r3 == [109]) then k0 (⟨r11.f_Base,r11.f_Prefix,r11.f_Suffix,4,r11.f_Added⟩:G_Parts) true else (bif (r3 == [109,109]) then k0 (⟨r11.f_Base,r11.f_Prefix,r11.f_Suffix,5,r11.f_Added⟩:G_Parts) true else (bif (r3 == [97,109]) then k0 (⟨r11.f_Base,r11.f_Prefix,r11.f_Suffix,6,r11.f_Added⟩:G_Parts) true else (bif ((r3.length:Int) == 1) then (g.strings_Contains [48,49,50,51,52,53,54,55,56,57] r3 (fun r12=>(bif r12 then k0 (⟨r11.f_Base,r11.f_Prefix,r11.f_Suffix,2,r3⟩:G_Parts) true else (g.R_begin r3 (fun r13=>(bif r13 then k0 (⟨r11.f_Base,r11.f_Prefix,r11.f_Suffix,1,r3⟩:G_Parts) true else k0 (⟨[],[],[],0,[]⟩:G_Parts) false)))))) else (g.R_begin r3 (fun r14=>(bif r14 then k0 (⟨r11.f_Base,r11.f_Prefix,r11.f_Suffix,1,r3⟩:G_Parts) true else k0 (⟨[],[],[],0,[]⟩:G_Parts) false)))))))))))))))) else (g.R_baseAt r2 (fun r15=>(bif (decide (r15 < 0)) then k0 (⟨[],[],[],0,[]⟩:G_Parts) false else (g.z83z r2 (fun r16=>(bif (r3 == [112]) then k0 (⟨r16.f_Base,r16.f_Prefix,r16.f_Suffix,3,r16.f_Added⟩:G_Parts) true else (bif (r3 == [109]) then k0 (⟨r16.f_Base,r16.f_Prefix,r16.f_Suffix,4,r16.f_Added⟩:G_Parts) true else (bif (r3 == [109,109]) then k0 (⟨r16.f_Base,r16.f_Prefix,r16.f_Suffix,5,r16.f_Added⟩:G_Parts) true else (bif (r3 == [97,109]) then k0 (⟨r16.f_Base,r16.f_Prefix,r16.f_Suffix,6,r16.f_Added⟩:G_Parts) true else (bif ((r3.length:Int) == 1) then (g.strings_Contains [48,49,50,51,52,53,54,55,56,57] r3 (fun r17=>(bif r17 then k0 (⟨r16.f_Base,r16.f_Prefix,r16.f_Suffix,2,r3⟩:G_Parts) true else (g.R_begin r3 (fun r18=>(bif r18 then k0 (⟨r16.f_Base,r16.f_Prefix,r16.f_Suffix,1,r3⟩:G_Parts) true else k0 (⟨[],[],[],0,[]⟩:G_Parts) false)))))) else (g.R_begin r3 (fun r19=>(bif r19 then k0 (⟨r16.f_Base,r16.f_Prefix,r16.f_Suffix,1,r3⟩:G_Parts) true else k0 (⟨[],[],[],0,[]⟩:G_Parts) false))))))))))))))))))))
noncomputable def yosy [Fuel]:C_R_PartsOf:=⟨NN,@z32z _,@z83z _,@R_baseAt _,@R_begin _,@strings_Contains _⟩
noncomputable def R_PartsOf [Fuel]:yiOy:=@ypIy yosy
def yeNy (g:yiOy):Spec A:=fun args=>match args with | [.d (.str a1)]=>fun k=>g a1 (fun z0 z1=>k (.tup [.agg [.d (.str z0.f_Base),.d (.str z0.f_Prefix),.d (.str z0.f_Suffix),.d (.int .i64 z0.f_Kind),.d (.str z0.f_Added)],.d (.bool z1)]) [.undef]) | _=>fun _=>none
noncomputable def yFoy:Code:=(Tryz.f109.body).getD .skip
noncomputable def yyhy (g:C_R_PartsOf):Env A:=mkE [(169,yjPy g.z32z),(170,ynNy g.z83z),(171,ydKy g.R_baseAt),(172,yhmy g.R_begin),(173,yb9y g.strings_Contains)] [(2,[0]),(8,[1]),(9,[2])] [] [] [] [] [] [] [] []
theorem yvjy (g:C_R_PartsOf):Same (yeNy (@ypIy g)) (abody (yyhy g) Tryz.f109 yFoy 3 [] [.asis,.asis] g.N):=by intro args; unfold yeNy; split; exact .inr fun R k=>(by kernel_rfl); exact .inl fun R k=>rfl
theorem ywvy [Fuel]:Ok 109 (yeNy (@R_PartsOf _)):=yaay std (.cons yzUy (.cons yJGy (.cons yopy (.cons yBiy (.cons ylzy .nil))))) ⟨rfl,rfl,by kernel_rfl,rfl,rfl,rfl⟩ (yvjy yosy) (cuts0 (fun _=>rfl) (by kernel_rfl)) Tryz.func109 (by kernel_rfl) (by kernel_rfl)
abbrev yo4y:Type 1:=List UInt8→{R:Type}→(Bool→Option R)→Option R
structure C_Q_Call where
 N:Nat
 R_PartsOf:yiOy
def yyFy (g:C_Q_Call) (a1:List UInt8) {R:Type} (k0:Bool→Option R):Option R :=
 (g.R_PartsOf a1 (fun r2 r3=>k0 r3))
noncomputable def ywfy [Fuel]:C_Q_Call:=⟨NN,@R_PartsOf _⟩
noncomputable def Q_Call [Fuel]:yo4y:=@yyFy ywfy
def yiDy (g:yo4y):Spec A:=fun args=>match args with | [.d (.str a1)]=>fun k=>g a1 (fun z0=>k (.d (.bool z0)) [.undef]) | _=>fun _=>none
noncomputable def yJyy:Code:=(Tryz.f60.body).getD .skip
noncomputable def yD2y (g:C_Q_Call):Env A:=mkE [(109,yeNy g.R_PartsOf)] [(3,[0])] [] [] [] [] [] [] [] []
theorem yDly (g:C_Q_Call):Same (yiDy (@yyFy g)) (abody (yD2y g) Tryz.f60 yJyy 1 [] [.asis] g.N):=by intro args; unfold yiDy; split; exact .inr fun R k=>(by kernel_rfl); exact .inl fun R k=>rfl
theorem ymOy [Fuel]:Ok 60 (yiDy (@Q_Call _)):=yaay std (.cons ywvy .nil) ⟨rfl,rfl,by kernel_rfl,rfl,rfl,rfl⟩ (yDly ywfy) (cuts0 (fun _=>rfl) (by kernel_rfl)) Tryz.func60 (by kernel_rfl) (by kernel_rfl)
abbrev yvzy:Type 1:=List G_Spot→{R:Type}→(Int→Option R)→Option R
structure C_z41z where
 N:Nat
 z2z:T_z2z
 Q_Moment:ykPy
 Q_in:yqqy
 Q_Call:yo4y
def z41z_L4 (g:C_z41z):Nat→List G_Spot→List G_Spot→Int→Int→{R:Type}→(Int→Option R)→Option R→Option R
 | 0,_,_,_,_,_,_,_=>none
 | n + 1,v2,v3,v4,v5,_,e0,e1=>(bif (decide (v5 < v4)) then (get_ v3 v5 fun x13=>(g.Q_Moment x13.f_At (fun r14=>(bif (!r14) then e0 1 else (g.Q_in x13.f_Hertz 0 30000000000 (fun r15=>(bif (!r15) then e0 1 else (g.Q_Call x13.f_Call (fun r16=>(bif (!r16) then e0 3 else (g.Q_Call x13.f_By (fun r17=>(bif (!r17) then e0 3 else (bif (decide (v5 > 0)) then (get_ v2 (w64 (v5 - 1)) fun x18=>(g.z2z x18 x13 (fun r19=>(bif (decide (r19 ≥ 0)) then e0 7 else z41z_L4 g n v2 v3 v4 (w64 (v5 + 1)) e0 e1)))) else z41z_L4 g n v2 v3 v4 (w64 (v5 + 1)) e0 e1)))))))))))))) else e1)
def z41z_ (g:C_z41z) (a1:List G_Spot) {R:Type} (k0:Int→Option R):Option R :=
 (bif (decide ((a1.length:Int) > 2000)) then k0 2 else (z41z_L4 g g.N a1 a1 (a1.length:Int) 0 (fun e20=>k0 e20) (k0 0)))
noncomputable def ycTy [Fuel]:C_z41z:=⟨NN,@z2z _,@Q_Moment _,@Q_in _,@Q_Call _⟩
noncomputable def z41z [Fuel]:yvzy:=@z41z_ ycTy
def ynOy (g:yvzy):Spec A:=fun args=>match args with | [.d (.sl 32 a1)]=>fun k=>g a1 (fun z0=>k (.d (.int .i64 z0)) [.undef]) | _=>fun _=>none
def yj5y:SSt:=mkSh 51 1 [(0,.sl 32),(8,.sl 32),(9,.int .i64),(10,.int .i64)] []
def yfwy (g:C_z41z) (n:Nat):LPT A:=fun ps=>match ps with | [.d (.sl 32 p1),.d (.sl 32 p2),.d (.int .i64 p3),.d (.int .i64 p4)]=>fun K=>z41z_L4 g n p1 p2 p3 p4 (fun z0=>K .ret (mkSt 51 1 [(2,.d (.int .i64 z0))] [])) (K (.exit 0) (mkSt 51 1 [] [])) | _=>fun _=>none
noncomputable def yzjy:Code:=(Tryz.f22.body).getD .skip
noncomputable def yqzy (g:C_z41z):Env A:=mkE [(57,ymDy g.z2z),(58,ygky g.Q_Moment),(59,yjuy g.Q_in),(60,yiDy g.Q_Call)] [(4,[0])] [(4,⟨[0,8,9,10],[],[],[],[],[],[]⟩)] [(4,⟨[2],[],[],[],[],[],[]⟩)] [(4,yafy yj5y (yfwy g g.N))] [] [] [] [] []
theorem yJRy [Fuel]:yagy (yqzy ycTy).C:=ct_of (P:=Tryz.prog) (T:=T) (.cons ypGy (.cons yn5y (.cons yr9y (.cons ymOy .nil)))) (by kernel_rfl)
noncomputable def yrqy:Code:=sub [1,1,0,1,0,0] yzjy
theorem yDOy (g:C_z41z) (n:Nat):yaly (yqzy g) g.N yrqy yj5y (yfwy g) n:=by intro ps; unfold yfwy; split; exact .inr fun R K=>(by kernel_rfl); exact .inl fun R K=>rfl
theorem yBvy [Fuel]:yaey (yqzy ycTy) NN yrqy:=yahy yj5y (yfwy ycTy) (by kernel_rfl) yJRy (cuts0 (fun _=>rfl) (by kernel_rfl)) (fun ps R K=>by unfold yfwy; split <;> (try unfold z41z_L4) <;> rfl) (yDOy ycTy)
theorem yHhy (g:C_z41z):Same (ynOy (@z41z_ g)) (abody (yqzy g) Tryz.f22 yzjy 1 [] [.asis] g.N):=by intro args; unfold ynOy; split; exact .inr fun R k=>(by kernel_rfl); exact .inl fun R k=>rfl
theorem yzzy [Fuel]:Ok 22 (ynOy (@z41z _)):=yaay std (.cons ypGy (.cons yn5y (.cons yr9y (.cons ymOy .nil)))) ⟨rfl,rfl,by kernel_rfl,rfl,rfl,rfl⟩ (yHhy ycTy) (cutsL (fun _=>rfl) (.cons yBvy .nil) (by kernel_rfl)) Tryz.func22 (by kernel_rfl) (by kernel_rfl)
abbrev yupy:Type 1:=G_Stream→Int→{R:Type}→(List G_Spot→G_Stream→Option R)→Option R
structure C_z26z where
 N:Nat
 z37z:yuGy
 z41z:yvzy
def z26z_L2 (g:C_z26z):Nat→Int→Int→G_Stream→{R:Type}→(G_Stream→List G_Spot→Option R)→(G_Stream→Option R)→Option R
 | 0,_,_,_,_,_,_=>none
 | n + 1,v3,v4,v5,_,e0,e1=>(bif (decide (v4 < 5)) then (g.z37z v5 v3 (fun r9 r10=>(g.z41z r9 (fun r11=>(bif (r11 == 0) then e0 r10 r9 else z26z_L2 g n v3 (w64 (v4 + 1)) r10 e0 e1))))) else e1 v5)
def z26z_ (g:C_z26z) (a1:G_Stream) (a2:Int) {R:Type} (k0:List G_Spot→G_Stream→Option R):Option R :=
 (z26z_L2 g g.N a2 0 a1 (fun e12 e13=>k0 e13 e12) (fun e14=>k0 [] e14))
noncomputable def yfEy [Fuel]:C_z26z:=⟨NN,@z37z _,@z41z _⟩
noncomputable def z26z [Fuel]:yupy:=@z26z_ yfEy
def ymTy (g:yupy):Spec A:=fun args=>match args with | [.box [.d (.sl 3 a1),.d (.int .i64 a2)],.d (.int .i64 a3)]=>fun k=>g ⟨a1,a2⟩ a3 (fun z0 z1=>k (.arr 32 z0) [.box [.d (.sl 3 z1.f_L),.d (.int .i64 z1.f_at)],.undef]) | _=>fun _=>none
def ykHy:SSt:=mkSh 16 2 [(0,.ptr 0 0),(1,.int .i64),(6,.int .i64)] [(0,.box [.sl 3,.int .i64])]
def yfey (g:C_z26z) (n:Nat):LPT A:=fun ps=>match ps with | [.d (.int .i64 p1),.d (.int .i64 p2),.d (.sl 3 p3),.d (.int .i64 p4)]=>fun K=>z26z_L2 g n p1 p2 ⟨p3,p4⟩ (fun z0 z1=>K .ret (mkSt 16 2 [(0,.ptr 0 0),(4,.own 32 1)] [(0,some (.box [.d (.sl 3 z0.f_L),.d (.int .i64 z0.f_at)])),(1,some (.row 32 z1))])) (fun z0=>K (.exit 0) (mkSt 16 2 [(0,.ptr 0 0)] [(0,some (.box [.d (.sl 3 z0.f_L),.d (.int .i64 z0.f_at)]))])) | _=>fun _=>none
noncomputable def yCuy:Code:=(Tryz.f5.body).getD .skip
noncomputable def yp4y (g:C_z26z):Env A:=mkE [(21,ynUy g.z37z),(22,ynOy g.z41z)] [(10,[1])] [(2,⟨[0,1,6],[],[0],[],[],[],[]⟩)] [(2,⟨[0,4],[],[0,1],[],[],[],[]⟩)] [(2,yafy ykHy (yfey g g.N))] [] [] [] [] [0]
theorem yGuy [Fuel]:yagy (yp4y yfEy).C:=ct_of (P:=Tryz.prog) (T:=T) (.cons yzny (.cons yzzy .nil)) (by kernel_rfl)
noncomputable def yppy:Code:=sub [1,0,1,0,0] yCuy
theorem yD1y (g:C_z26z) (n:Nat):yaly (yp4y g) g.N yppy ykHy (yfey g) n:=by intro ps; unfold yfey; split; exact .inr fun R K=>(by kernel_rfl); exact .inl fun R K=>rfl
theorem yA4y [Fuel]:yaey (yp4y yfEy) NN yppy:=yahy ykHy (yfey yfEy) (by kernel_rfl) yGuy (cuts0 (fun _=>rfl) (by kernel_rfl)) (fun ps R K=>by unfold yfey; split <;> (try unfold z26z_L2) <;> rfl) (yD1y yfEy)
theorem yGEy (g:C_z26z):Same (ymTy (@z26z_ g)) (abody (yp4y g) Tryz.f5 yCuy 2 [0] [.arr 32] g.N):=by intro args; unfold ymTy; split; exact .inr fun R k=>(by kernel_rfl); exact .inl fun R k=>rfl
theorem yF8y [Fuel]:Ok 5 (ymTy (@z26z _)):=yaay std (.cons yzny (.cons yzzy .nil)) ⟨rfl,rfl,by kernel_rfl,rfl,rfl,rfl⟩ (yGEy yfEy) (cutsL (fun _=>rfl) (.cons yA4y .nil) (by kernel_rfl)) Tryz.func5 (by kernel_rfl) (by kernel_rfl)
end Go.Am
