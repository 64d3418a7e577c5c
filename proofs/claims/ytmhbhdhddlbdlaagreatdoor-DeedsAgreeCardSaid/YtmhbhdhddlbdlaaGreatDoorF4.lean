/- The functions of the program as Lean functions, each shown to be what the code computes, part 4. No condition: lemmas for the claim. -/
import Derived.Test.YtmhbhdhddlbdlaaGreatDoorF0
import Derived.Test.YtmhbhdhddlbdlaaGreatDoorFSh
import Derived.Test.YtmhbhdhddlbdlaaGreatDoorF1
import Derived.Test.YtmhbhdhddlbdlaaGreatDoorF2
import Derived.Test.YtmhbhdhddlbdlaaGreatDoorF3
set_option linter.unusedVariables false
set_option maxRecDepth 100000
namespace Go.Am
open Go Go.Proofs
abbrev T_z9z:Type 1:=G_Deed→G_Deed→{R:Type}→(Bool→G_Deed→Option R)→Option R
structure C_z9z where
 N:Nat
 Q_sameNo:yl8y
def z9z_ (g:C_z9z) (a1 a2:G_Deed) {R:Type} (k0:Bool→G_Deed→Option R):Option R :=
 (g.Q_sameNo a1 a2 (fun r3=>k0 r3 a2))
noncomputable def I_z9z [Fuel]:C_z9z:=⟨NN,@Q_sameNo _⟩
noncomputable def z9z [Fuel]:T_z9z:=@z9z_ I_z9z
def yrhy (g:T_z9z):Spec A:=fun args=>match args with | [.agg [.d (.str a1),.d (.int .i64 a2),.d (.int .i64 a3),.d (.int .i64 a4),.d (.int .i64 a5),.d (.int .i64 a6),.d (.str a7),.d (.str a8),.d (.int .i64 a9),.d (.int .i64 a10),.d (.str a11),.d (.str a12),.d (.str a13),.d (.str a14),.d (.int .i64 a15)],.box [.d (.str a16),.d (.int .i64 a17),.d (.int .i64 a18),.d (.int .i64 a19),.d (.int .i64 a20),.d (.int .i64 a21),.d (.str a22),.d (.str a23),.d (.int .i64 a24),.d (.int .i64 a25),.d (.str a26),.d (.str a27),.d (.str a28),.d (.str a29),.d (.int .i64 a30)]]=>fun k=>g ⟨a1,a2,a3,a4,⟨a5,a6,a7,a8,a9,a10,a11,a12⟩,a13,a14,a15⟩ ⟨a16,a17,a18,a19,⟨a20,a21,a22,a23,a24,a25,a26,a27⟩,a28,a29,a30⟩ (fun z0 z1=>k (.d (.bool z0)) [.undef,.box [.d (.str z1.f_Site),.d (.int .i64 z1.f_No),.d (.int .i64 z1.f_At),.d (.int .i64 z1.f_Kind),.d (.int .i64 z1.f_Contact.f_At),.d (.int .i64 z1.f_Contact.f_Mode),.d (.str z1.f_Contact.f_Band),.d (.str z1.f_Contact.f_Call),.d (.int .i64 z1.f_Contact.f_Sent),.d (.int .i64 z1.f_Contact.f_Heard),.d (.str z1.f_Contact.f_Gave),.d (.str z1.f_Contact.f_Got),.d (.str z1.f_Band),.d (.str z1.f_Of),.d (.int .i64 z1.f_Other)]]) | _=>fun _=>none
noncomputable def yKsy:Code:=(Tryz.f95.body).getD .skip
noncomputable def E_z9z (g:C_z9z):Env A:=mkE [(96,yg5y g.Q_sameNo)] [(2,[1])] [] [] [] [] [] [] [] [1]
theorem yNty (g:C_z9z):Same (yrhy (@z9z_ g)) (abody (E_z9z g) Tryz.f95 yKsy 2 [0] [.asis] g.N):=by intro args;unfold yrhy;split;exact .inr fun R k=>(by kernel_rfl);exact .inl fun R k=>rfl
theorem yE3y [Fuel]:Ok 95 (yrhy (@z9z _)):=yacy std (.cons yzNy .nil) ⟨rfl,rfl,by kernel_rfl,rfl,rfl,rfl⟩ (yNty I_z9z) (cuts0 (fun _=>rfl) (by kernel_rfl)) Tryz.func95 (by kernel_rfl) (by kernel_rfl)
abbrev T_z4z:Type 1:=List G_Deed→G_Deed→{R:Type}→(Int→G_Deed→Option R)→Option R
structure C_z4z where
 N:Nat
 z9z:T_z9z
def z4z_L2 (g:C_z4z):Nat→List G_Deed→Int→Int→G_Deed→{R:Type}→(Int→G_Deed→Option R)→(G_Deed→Option R)→Option R
 | 0,_,_,_,_,_,_,_=>none
 | n + 1,v3,v4,v5,v6,_,e0,e1=>(bif (decide (v5 < v4)) then (get_ v3 v5 fun x10=>(g.z9z x10 v6 (fun r11 r12=>(bif r11 then e0 v5 r12 else z4z_L2 g n v3 v4 (w64 (v5 + 1)) r12 e0 e1)))) else e1 v6)
def z4z_ (g:C_z4z) (a1:List G_Deed) (a2:G_Deed) {R:Type} (k0:Int→G_Deed→Option R):Option R :=
 (z4z_L2 g g.N a1 (a1.length:Int) 0 a2 (fun e13 e14=>k0 e13 e14) (fun e15=>k0 (-1) e15))
noncomputable def I_z4z [Fuel]:C_z4z:=⟨NN,@z9z _⟩
noncomputable def z4z [Fuel]:T_z4z:=@z4z_ I_z4z
def yqWy (g:T_z4z):Spec A:=fun args=>match args with | [.d (.sl 51 a1),.fn 95 [.box [.d (.str a2),.d (.int .i64 a3),.d (.int .i64 a4),.d (.int .i64 a5),.d (.int .i64 a6),.d (.int .i64 a7),.d (.str a8),.d (.str a9),.d (.int .i64 a10),.d (.int .i64 a11),.d (.str a12),.d (.str a13),.d (.str a14),.d (.str a15),.d (.int .i64 a16)]]]=>fun k=>g a1 ⟨a2,a3,a4,a5,⟨a6,a7,a8,a9,a10,a11,a12,a13⟩,a14,a15,a16⟩ (fun z0 z1=>k (.d (.int .i64 z0)) [.undef,.fn 95 [.box [.d (.str z1.f_Site),.d (.int .i64 z1.f_No),.d (.int .i64 z1.f_At),.d (.int .i64 z1.f_Kind),.d (.int .i64 z1.f_Contact.f_At),.d (.int .i64 z1.f_Contact.f_Mode),.d (.str z1.f_Contact.f_Band),.d (.str z1.f_Contact.f_Call),.d (.int .i64 z1.f_Contact.f_Sent),.d (.int .i64 z1.f_Contact.f_Heard),.d (.str z1.f_Contact.f_Gave),.d (.str z1.f_Contact.f_Got),.d (.str z1.f_Band),.d (.str z1.f_Of),.d (.int .i64 z1.f_Other)]]]) | _=>fun _=>none
def ynvy:SSt:=mkSh 19 1 [(0,.sl 51),(1,.fn 95 [.ptr 0 0]),(7,.int .i64),(8,.int .i64)] [(0,.box [.str,.int .i64,.int .i64,.int .i64,.int .i64,.int .i64,.str,.str,.int .i64,.int .i64,.str,.str,.str,.str,.int .i64])]
def yhFy (g:C_z4z) (n:Nat):LPT A:=fun ps=>match ps with | [.d (.sl 51 p1),.d (.int .i64 p2),.d (.int .i64 p3),.d (.str p4),.d (.int .i64 p5),.d (.int .i64 p6),.d (.int .i64 p7),.d (.int .i64 p8),.d (.int .i64 p9),.d (.str p10),.d (.str p11),.d (.int .i64 p12),.d (.int .i64 p13),.d (.str p14),.d (.str p15),.d (.str p16),.d (.str p17),.d (.int .i64 p18)]=>fun K=>z4z_L2 g n p1 p2 p3 ⟨p4,p5,p6,p7,⟨p8,p9,p10,p11,p12,p13,p14,p15⟩,p16,p17,p18⟩ (fun z0 z1=>K .ret (mkSt 19 1 [(1,.fn 95 [.ptr 0 0]),(4,.d (.int .i64 z0))] [(0,some (.box [.d (.str z1.f_Site),.d (.int .i64 z1.f_No),.d (.int .i64 z1.f_At),.d (.int .i64 z1.f_Kind),.d (.int .i64 z1.f_Contact.f_At),.d (.int .i64 z1.f_Contact.f_Mode),.d (.str z1.f_Contact.f_Band),.d (.str z1.f_Contact.f_Call),.d (.int .i64 z1.f_Contact.f_Sent),.d (.int .i64 z1.f_Contact.f_Heard),.d (.str z1.f_Contact.f_Gave),.d (.str z1.f_Contact.f_Got),.d (.str z1.f_Band),.d (.str z1.f_Of),.d (.int .i64 z1.f_Other)]))])) (fun z0=>K (.exit 0) (mkSt 19 1 [(1,.fn 95 [.ptr 0 0])] [(0,some (.box [.d (.str z0.f_Site),.d (.int .i64 z0.f_No),.d (.int .i64 z0.f_At),.d (.int .i64 z0.f_Kind),.d (.int .i64 z0.f_Contact.f_At),.d (.int .i64 z0.f_Contact.f_Mode),.d (.str z0.f_Contact.f_Band),.d (.str z0.f_Contact.f_Call),.d (.int .i64 z0.f_Contact.f_Sent),.d (.int .i64 z0.f_Contact.f_Heard),.d (.str z0.f_Contact.f_Gave),.d (.str z0.f_Contact.f_Got),.d (.str z0.f_Band),.d (.str z0.f_Of),.d (.int .i64 z0.f_Other)]))])) | _=>fun _=>none
noncomputable def yxAy:Code:=(Tryz.f152.body).getD .skip
noncomputable def E_z4z (g:C_z4z):Env A:=mkE [(95,yrhy g.z9z)] [] [(2,⟨[0,1,7,8],[],[0],[],[],[],[]⟩)] [(2,⟨[1,4],[],[0],[],[],[],[]⟩)] [(2,yajy ynvy (yhFy g g.N))] [] [] [] [] [1]
theorem yMsy [Fuel]:yaky (E_z4z I_z4z).C:=ct_of (P:=Tryz.prog) (T:=T) (.cons yE3y .nil) (by kernel_rfl)
noncomputable def yupy:Code:=sub [1,0,1,0,0] yxAy
theorem yGDy (g:C_z4z) (n:Nat):yaoy (E_z4z g) g.N yupy ynvy (yhFy g) n:=by intro ps;unfold yhFy;split;exact .inr fun R K=>(by kernel_rfl);exact .inl fun R K=>rfl
theorem yEky [Fuel]:yagy (E_z4z I_z4z) NN yupy:=yaly ynvy (yhFy I_z4z) (by kernel_rfl) yMsy (cuts0 (fun _=>rfl) (by kernel_rfl)) (fun ps R K=>by unfold yhFy;split <;> (try unfold z4z_L2) <;> rfl) (yGDy I_z4z)
theorem yMVy (g:C_z4z):Same (yqWy (@z4z_ g)) (abody (E_z4z g) Tryz.f152 yxAy 1 [0] [.asis] g.N):=by intro args;unfold yqWy;split;exact .inr fun R k=>(by kernel_rfl);exact .inl fun R k=>rfl
theorem yMMy [Fuel]:Ok 152 (yqWy (@z4z _)):=yacy std (.cons yE3y .nil) ⟨rfl,rfl,by kernel_rfl,rfl,rfl,rfl⟩ (yMVy I_z4z) (cutsL (fun _=>rfl) (.cons yEky .nil) (by kernel_rfl)) Tryz.func152 (by kernel_rfl) (by kernel_rfl)
abbrev yx3y:Type 1:=List G_Deed→G_Deed→{R:Type}→(Bool→G_Deed→Option R)→Option R
structure C_z20z where
 N:Nat
 z4z:T_z4z
def z20z_ (g:C_z20z) (a1:List G_Deed) (a2:G_Deed) {R:Type} (k0:Bool→G_Deed→Option R):Option R :=
 (g.z4z a1 a2 (fun r3 r4=>k0 (decide (r3 ≥ 0)) r4))
noncomputable def yvsy [Fuel]:C_z20z:=⟨NN,@z4z _⟩
noncomputable def z20z [Fuel]:yx3y:=@z20z_ yvsy
def yply (g:yx3y):Spec A:=fun args=>match args with | [.d (.sl 51 a1),.fn 95 [.box [.d (.str a2),.d (.int .i64 a3),.d (.int .i64 a4),.d (.int .i64 a5),.d (.int .i64 a6),.d (.int .i64 a7),.d (.str a8),.d (.str a9),.d (.int .i64 a10),.d (.int .i64 a11),.d (.str a12),.d (.str a13),.d (.str a14),.d (.str a15),.d (.int .i64 a16)]]]=>fun k=>g a1 ⟨a2,a3,a4,a5,⟨a6,a7,a8,a9,a10,a11,a12,a13⟩,a14,a15,a16⟩ (fun z0 z1=>k (.d (.bool z0)) [.undef,.fn 95 [.box [.d (.str z1.f_Site),.d (.int .i64 z1.f_No),.d (.int .i64 z1.f_At),.d (.int .i64 z1.f_Kind),.d (.int .i64 z1.f_Contact.f_At),.d (.int .i64 z1.f_Contact.f_Mode),.d (.str z1.f_Contact.f_Band),.d (.str z1.f_Contact.f_Call),.d (.int .i64 z1.f_Contact.f_Sent),.d (.int .i64 z1.f_Contact.f_Heard),.d (.str z1.f_Contact.f_Gave),.d (.str z1.f_Contact.f_Got),.d (.str z1.f_Band),.d (.str z1.f_Of),.d (.int .i64 z1.f_Other)]]]) | _=>fun _=>none
noncomputable def yMay:Code:=(Tryz.f94.body).getD .skip
noncomputable def yNSy (g:C_z20z):Env A:=mkE [(152,yqWy g.z4z)] [] [] [] [] [] [] [] [(152,0)] [1]
theorem yKEy (g:C_z20z):Same (yply (@z20z_ g)) (abody (yNSy g) Tryz.f94 yMay 1 [0] [.asis] g.N):=by intro args;unfold yply;split;exact .inr fun R k=>(by kernel_rfl);exact .inl fun R k=>rfl
theorem yBOy [Fuel]:Ok 94 (yply (@z20z _)):=yacy std (.cons yMMy .nil) ⟨rfl,rfl,by kernel_rfl,rfl,rfl,rfl⟩ (yKEy yvsy) (cuts0 (fun _=>rfl) (by kernel_rfl)) Tryz.func94 (by kernel_rfl) (by kernel_rfl)
abbrev T_z3z:Type 1:=List G_Deed→{R:Type}→(Int→Option R)→Option R
structure C_z3z where
 N:Nat
 z2z:T_z2z
 z77z:ywEy
 z20z:yx3y
def z3z_L4 (g:C_z3z):Nat→List G_Deed→List G_Deed→Int→Int→{R:Type}→(List G_Deed→Int→Option R)→(List G_Deed→Option R)→Option R
 | 0,_,_,_,_,_,_,_=>none
 | n + 1,v2,v3,v4,v5,_,e0,e1=>(bif (decide (v5 < v4)) then (get_ v3 v5 fun x10=>(g.z77z x10 (fun r11=>(bif (r11 != 0) then e0 v2 r11 else (bif (decide (v5 > 0)) then (get_ v2 (w64 (v5 - 1)) fun x12=>(g.z2z x12 x10 (fun r13=>(bif (decide (r13 ≥ 0)) then e0 v2 7 else z3z_L4 g n v2 v3 v4 (w64 (v5 + 1)) e0 e1)))) else z3z_L4 g n v2 v3 v4 (w64 (v5 + 1)) e0 e1))))) else e1 v2)
def z3z_L13 (g:C_z3z):Nat→List G_Deed→List G_Deed→Int→Int→{R:Type}→(Int→Option R)→Option R→Option R
 | 0,_,_,_,_,_,_,_=>none
 | n + 1,v17,v18,v19,v20,_,e0,e1=>(bif (decide (v20 < v19)) then (get_ v18 v20 fun x24=>(bif (decide (0≤v20)&&decide (v20≤(v17.length:Int))) then (g.z20z (v17.take (v20:Int).toNat) x24 (fun r25 r26=>(bif r25 then e0 6 else z3z_L13 g n v17 v18 v19 (w64 (v20 + 1)) e0 e1))) else none)) else e1)
def z3z_ (g:C_z3z) (a1:List G_Deed) {R:Type} (k0:Int→Option R):Option R :=
 (bif (decide ((a1.length:Int) > 2000)) then k0 2 else (z3z_L4 g g.N a1 a1 (a1.length:Int) 0 (fun e14 e15=>k0 e15) (fun e16=>(z3z_L13 g g.N e16 e16 (e16.length:Int) 0 (fun e27=>k0 e27) (k0 0)))))
noncomputable def I_z3z [Fuel]:C_z3z:=⟨NN,@z2z _,@z77z _,@z20z _⟩
noncomputable def z3z [Fuel]:T_z3z:=@z3z_ I_z3z
def yrTy (g:T_z3z):Spec A:=fun args=>match args with | [.d (.sl 51 a1)]=>fun k=>g a1 (fun z0=>k (.d (.int .i64 z0)) [.undef]) | _=>fun _=>none
def ynVy:SSt:=mkSh 49 2 [(0,.sl 51),(11,.sl 51),(12,.int .i64),(13,.int .i64)] []
def yhAy (g:C_z3z) (n:Nat):LPT A:=fun ps=>match ps with | [.d (.sl 51 p1),.d (.sl 51 p2),.d (.int .i64 p3),.d (.int .i64 p4)]=>fun K=>z3z_L4 g n p1 p2 p3 p4 (fun z0 z1=>K .ret (mkSt 49 2 [(0,.d (.sl 51 z0)),(2,.d (.int .i64 z1))] [])) (fun z0=>K (.exit 0) (mkSt 49 2 [(0,.d (.sl 51 z0))] [])) | _=>fun _=>none
def ylMy:SSt:=mkSh 49 2 [(0,.sl 51),(36,.sl 51),(37,.int .i64),(38,.int .i64)] []
def yfKy (g:C_z3z) (n:Nat):LPT A:=fun ps=>match ps with | [.d (.sl 51 p1),.d (.sl 51 p2),.d (.int .i64 p3),.d (.int .i64 p4)]=>fun K=>z3z_L13 g n p1 p2 p3 p4 (fun z0=>K .ret (mkSt 49 2 [(2,.d (.int .i64 z0))] [])) (K (.exit 2) (mkSt 49 2 [] [])) | _=>fun _=>none
noncomputable def ytty:Code:=(Tryz.f42.body).getD .skip
noncomputable def E_z3z (g:C_z3z):Env A:=mkE [(92,ynMy g.z2z),(93,yozy g.z77z),(94,yply g.z20z)] [(4,[0]),(7,[1])] [(4,⟨[0,11,12,13],[],[],[],[],[],[]⟩),(13,⟨[0,36,37,38],[],[],[],[],[],[]⟩)] [(4,⟨[0,2],[],[],[],[],[],[]⟩),(13,⟨[2],[],[],[],[],[],[]⟩)] [(4,yajy ynVy (yhAy g g.N)),(13,yajy ylMy (yfKy g g.N))] [] [] [] [] []
theorem yEVy [Fuel]:yaky (E_z3z I_z3z).C:=ct_of (P:=Tryz.prog) (T:=T) (.cons ysmy (.cons yz9y (.cons yBOy .nil))) (by kernel_rfl)
noncomputable def yuvy:Code:=sub [1,1,0,1,0,0] ytty
theorem yHTy (g:C_z3z) (n:Nat):yaoy (E_z3z g) g.N yuvy ynVy (yhAy g) n:=by intro ps;unfold yhAy;split;exact .inr fun R K=>(by kernel_rfl);exact .inl fun R K=>rfl
theorem yDVy [Fuel]:yagy (E_z3z I_z3z) NN yuvy:=yaly ynVy (yhAy I_z3z) (by kernel_rfl) yEVy (cuts0 (fun _=>rfl) (by kernel_rfl)) (fun ps R K=>by unfold yhAy;split <;> (try unfold z3z_L4) <;> rfl) (yHTy I_z3z)
noncomputable def yrfy:Code:=sub [1,1,1,0,1,0,0] ytty
theorem yEQy (g:C_z3z) (n:Nat):yaoy (E_z3z g) g.N yrfy ylMy (yfKy g) n:=by intro ps;unfold yfKy;split;exact .inr fun R K=>(by kernel_rfl);exact .inl fun R K=>rfl
theorem yDby [Fuel]:yagy (E_z3z I_z3z) NN yrfy:=yaly ylMy (yfKy I_z3z) (by kernel_rfl) yEVy (cuts0 (fun _=>rfl) (by kernel_rfl)) (fun ps R K=>by unfold yfKy;split <;> (try unfold z3z_L13) <;> rfl) (yEQy I_z3z)
theorem yNKy (g:C_z3z):Same (yrTy (@z3z_ g)) (abody (E_z3z g) Tryz.f42 ytty 2 [] [.asis] g.N):=by intro args;unfold yrTy;split;exact .inr fun R k=>(by kernel_rfl);exact .inl fun R k=>rfl
theorem yEIy [Fuel]:Ok 42 (yrTy (@z3z _)):=yacy std (.cons ysmy (.cons yz9y (.cons yBOy .nil))) ⟨rfl,rfl,by kernel_rfl,rfl,rfl,rfl⟩ (yNKy I_z3z) (cutsL (fun _=>rfl) (.cons yDVy (.cons yDby .nil)) (by kernel_rfl)) Tryz.func42 (by kernel_rfl) (by kernel_rfl)
abbrev ywcy:Type 1:=G_Stream→Int→{R:Type}→(List G_Deed→G_Stream→Option R)→Option R
structure C_z28z where
 N:Nat
 z17z:yw9y
 z3z:T_z3z
def z28z_L2 (g:C_z28z):Nat→Int→Int→G_Stream→{R:Type}→(G_Stream→List G_Deed→Option R)→(G_Stream→Option R)→Option R
 | 0,_,_,_,_,_,_=>none
 | n + 1,v3,v4,v5,_,e0,e1=>(bif (decide (v4 < 5)) then (g.z17z v5 v3 (fun r9 r10=>(g.z3z r9 (fun r11=>(bif (r11 == 0) then e0 r10 r9 else z28z_L2 g n v3 (w64 (v4 + 1)) r10 e0 e1))))) else e1 v5)
def z28z_ (g:C_z28z) (a1:G_Stream) (a2:Int) {R:Type} (k0:List G_Deed→G_Stream→Option R):Option R :=
 (z28z_L2 g g.N a2 0 a1 (fun e12 e13=>k0 e13 e12) (fun e14=>k0 [] e14))
noncomputable def yf3y [Fuel]:C_z28z:=⟨NN,@z17z _,@z3z _⟩
noncomputable def z28z [Fuel]:ywcy:=@z28z_ yf3y
def yo8y (g:ywcy):Spec A:=fun args=>match args with | [.box [.d (.sl 3 a1),.d (.int .i64 a2)],.d (.int .i64 a3)]=>fun k=>g ⟨a1,a2⟩ a3 (fun z0 z1=>k (.arr 51 z0) [.box [.d (.sl 3 z1.f_L),.d (.int .i64 z1.f_at)],.undef]) | _=>fun _=>none
def ylry:SSt:=mkSh 16 2 [(0,.ptr 0 0),(1,.int .i64),(6,.int .i64)] [(0,.box [.sl 3,.int .i64])]
def yfNy (g:C_z28z) (n:Nat):LPT A:=fun ps=>match ps with | [.d (.int .i64 p1),.d (.int .i64 p2),.d (.sl 3 p3),.d (.int .i64 p4)]=>fun K=>z28z_L2 g n p1 p2 ⟨p3,p4⟩ (fun z0 z1=>K .ret (mkSt 16 2 [(0,.ptr 0 0),(4,.own 51 1)] [(0,some (.box [.d (.sl 3 z0.f_L),.d (.int .i64 z0.f_at)])),(1,some (.row 51 z1))])) (fun z0=>K (.exit 0) (mkSt 16 2 [(0,.ptr 0 0)] [(0,some (.box [.d (.sl 3 z0.f_L),.d (.int .i64 z0.f_at)]))])) | _=>fun _=>none
noncomputable def yBly:Code:=(Tryz.f14.body).getD .skip
noncomputable def ysty (g:C_z28z):Env A:=mkE [(41,yoMy g.z17z),(42,yrTy g.z3z)] [(10,[1])] [(2,⟨[0,1,6],[],[0],[],[],[],[]⟩)] [(2,⟨[0,4],[],[0,1],[],[],[],[]⟩)] [(2,yajy ylry (yfNy g g.N))] [] [] [] [] [0]
theorem yKoy [Fuel]:yaky (ysty yf3y).C:=ct_of (P:=Tryz.prog) (T:=T) (.cons yBjy (.cons yEIy .nil)) (by kernel_rfl)
noncomputable def yqXy:Code:=sub [1,0,1,0,0] yBly
theorem yFby (g:C_z28z) (n:Nat):yaoy (ysty g) g.N yqXy ylry (yfNy g) n:=by intro ps;unfold yfNy;split;exact .inr fun R K=>(by kernel_rfl);exact .inl fun R K=>rfl
theorem yCFy [Fuel]:yagy (ysty yf3y) NN yqXy:=yaly ylry (yfNy yf3y) (by kernel_rfl) yKoy (cuts0 (fun _=>rfl) (by kernel_rfl)) (fun ps R K=>by unfold yfNy;split <;> (try unfold z28z_L2) <;> rfl) (yFby yf3y)
theorem yLmy (g:C_z28z):Same (yo8y (@z28z_ g)) (abody (ysty g) Tryz.f14 yBly 2 [0] [.arr 51] g.N):=by intro args;unfold yo8y;split;exact .inr fun R k=>(by kernel_rfl);exact .inl fun R k=>rfl
theorem yAmy [Fuel]:Ok 14 (yo8y (@z28z _)):=yacy std (.cons yBjy (.cons yEIy .nil)) ⟨rfl,rfl,by kernel_rfl,rfl,rfl,rfl⟩ (yLmy yf3y) (cutsL (fun _=>rfl) (.cons yCFy .nil) (by kernel_rfl)) Tryz.func14 (by kernel_rfl) (by kernel_rfl)
abbrev yxIy:Type 1:=G_Stream→List G_Deed→{R:Type}→(List G_Deed→List G_Deed→G_Stream→Option R)→Option R
structure C_z32z where
 N:Nat
 z42z:yf5y
def z32z_L3 (g:C_z32z):Nat→List G_Deed→Int→Int→G_Stream→List G_Deed→List G_Deed→{R:Type}→(G_Stream→List G_Deed→List G_Deed→Option R)→Option R
 | 0,_,_,_,_,_,_,_,_=>none
 | n + 1,v3,v4,v5,v6,v7,v8,_,e0=>(bif (decide (v5 < v4)) then (get_ v3 v5 fun x12=>(g.z42z v6 3 (fun r13 r14=>(bif (r13 == 0) then (bif (decide ((v7.length + [x12].length) * 176≤yady)) then z32z_L3 g n v3 v4 (w64 (v5 + 1)) r14 (v7++[x12]) v8 e0 else none) else (bif (r13 == 1) then (bif (decide ((v8.length + [x12].length) * 176≤yady)) then z32z_L3 g n v3 v4 (w64 (v5 + 1)) r14 v7 (v8++[x12]) e0 else none) else (bif (decide ((v7.length + [x12].length) * 176≤yady)) then (bif (decide ((v8.length + [x12].length) * 176≤yady)) then z32z_L3 g n v3 v4 (w64 (v5 + 1)) r14 (v7++[x12]) (v8++[x12]) e0 else none) else none)))))) else e0 v6 v7 v8)
def z32z_ (g:C_z32z) (a1:G_Stream) (a2:List G_Deed) {R:Type} (k0:List G_Deed→List G_Deed→G_Stream→Option R):Option R :=
 (z32z_L3 g g.N a2 (a2.length:Int) 0 a1 [] [] (fun e15 e16 e17=>k0 e16 e17 e15))
noncomputable def yhmy [Fuel]:C_z32z:=⟨NN,@z42z _⟩
noncomputable def z32z [Fuel]:yxIy:=@z32z_ yhmy
def yoAy (g:yxIy):Spec A:=fun args=>match args with | [.box [.d (.sl 3 a1),.d (.int .i64 a2)],.d (.sl 51 a3)]=>fun k=>g ⟨a1,a2⟩ a3 (fun z0 z1 z2=>k (.tup [.arr 51 z0,.arr 51 z1]) [.box [.d (.sl 3 z2.f_L),.d (.int .i64 z2.f_at)],.undef]) | _=>fun _=>none
def ymey:SSt:=mkSh 41 12 [(0,.ptr 0 0),(6,.own 51 1),(7,.own 51 2),(10,.sl 51),(11,.int .i64),(12,.int .i64)] [(0,.box [.sl 3,.int .i64]),(1,.row 51),(2,.row 51)]
def yfpy (g:C_z32z) (n:Nat):LPT A:=fun ps=>match ps with | [.d (.sl 51 p1),.d (.int .i64 p2),.d (.int .i64 p3),.d (.sl 3 p4),.d (.int .i64 p5),.d (.sl 51 p6),.d (.sl 51 p7)]=>fun K=>z32z_L3 g n p1 p2 p3 ⟨p4,p5⟩ p6 p7 (fun z0 z1 z2=>K (.exit 0) (mkSt 41 12 [(0,.ptr 0 0),(6,.own 51 1),(7,.own 51 2)] [(0,some (.box [.d (.sl 3 z0.f_L),.d (.int .i64 z0.f_at)])),(1,some (.row 51 z1)),(2,some (.row 51 z2))])) | _=>fun _=>none
noncomputable def yAcy:Code:=(Tryz.f15.body).getD .skip
noncomputable def yr2y (g:C_z32z):Env A:=mkE [(23,ydwy g.z42z)] [(9,[3]),(20,[8]),(21,[10]),(24,[9]),(25,[11]),(30,[4]),(31,[5]),(36,[6]),(37,[7])] [(3,⟨[0,6,7,10,11,12],[(6,51,1),(7,51,2)],[0],[],[],[],[]⟩)] [(3,⟨[0,6,7],[],[0,1,2],[],[],[],[]⟩)] [(3,yajy ymey (yfpy g g.N))] [] [] [] [] [0]
theorem yLVy [Fuel]:yaky (yr2y yhmy).C:=ct_of (P:=Tryz.prog) (T:=T) (.cons yd1y .nil) (by kernel_rfl)
noncomputable def yr8y:Code:=sub [1,1,0,1,0,0] yAcy
theorem yFqy (g:C_z32z) (n:Nat):yaoy (yr2y g) g.N yr8y ymey (yfpy g) n:=by intro ps;unfold yfpy;split;exact .inr fun R K=>(by kernel_rfl);exact .inl fun R K=>rfl
theorem yCoy [Fuel]:yagy (yr2y yhmy) NN yr8y:=yaly ymey (yfpy yhmy) (by kernel_rfl) yLVy (cuts0 (fun _=>rfl) (by kernel_rfl)) (fun ps R K=>by unfold yfpy;split <;> (try unfold z32z_L3) <;> rfl) (yFqy yhmy)
theorem yL0y (g:C_z32z):Same (yoAy (@z32z_ g)) (abody (yr2y g) Tryz.f15 yAcy 12 [0] [.arr 51,.arr 51] g.N):=by intro args;unfold yoAy;split;exact .inr fun R k=>(by kernel_rfl);exact .inl fun R k=>rfl
theorem yAEy [Fuel]:Ok 15 (yoAy (@z32z _)):=yacy std (.cons yd1y .nil) ⟨rfl,rfl,by kernel_rfl,rfl,rfl,rfl⟩ (yL0y yhmy) (cutsL (fun _=>rfl) (.cons yCoy .nil) (by kernel_rfl)) Tryz.func15 (by kernel_rfl) (by kernel_rfl)
abbrev ybDy:Type 1:=List UInt8→{R:Type}→(Bool→Option R)→Option R
structure C_kit_IsKey where
 N:Nat
 strings_Trim:yc2y
 strings_IndexByte:ycry
def yh1y (g:C_kit_IsKey) (a1:List UInt8) {R:Type} (k0:Bool→Option R):Option R :=
 (bif (!(a1 == [])) then (bif (decide ((a1.length:Int)≤40)) then (at_ a1 0 fun x2=>(g.strings_IndexByte [97,98,99,100,101,102,103,104,105,106,107,108,109,110,111,112,113,114,115,116,117,118,119,120,121,122] (x2.toNat:Int) (fun r3=>(bif (decide (r3 ≥ 0)) then (g.strings_Trim a1 [97,98,99,100,101,102,103,104,105,106,107,108,109,110,111,112,113,114,115,116,117,118,119,120,121,122,48,49,50,51,52,53,54,55,56,57,45,95] (fun r4=>k0 (r4 == []))) else k0 false)))) else k0 false) else k0 false)
noncomputable def yduy [Fuel]:C_kit_IsKey:=⟨NN,@strings_Trim _,@strings_IndexByte _⟩
noncomputable def kit_IsKey [Fuel]:ybDy:=@yh1y yduy
def ybiy (g:ybDy):Spec A:=fun args=>match args with | [.d (.str a1)]=>fun k=>g a1 (fun z0=>k (.d (.bool z0)) [.undef]) | _=>fun _=>none
noncomputable def yJty:Code:=(Tryz.f80.body).getD .skip
noncomputable def yzby (g:C_kit_IsKey):Env A:=mkE [(129,ydEy g.strings_Trim),(137,yc7y g.strings_IndexByte)] [] [] [] [] [] [] [] [] []
theorem yyty (g:C_kit_IsKey):Same (ybiy (@yh1y g)) (abody (yzby g) Tryz.f80 yJty 0 [] [.asis] g.N):=by intro args;unfold ybiy;split;exact .inr fun R k=>(by kernel_rfl);exact .inl fun R k=>rfl
theorem yaVy [Fuel]:Ok 80 (ybiy (@kit_IsKey _)):=yacy std (.cons yfwy (.cons yddy .nil)) ⟨rfl,rfl,by kernel_rfl,rfl,rfl,rfl⟩ (yyty yduy) (cuts0 (fun _=>rfl) (by kernel_rfl)) Tryz.func80 (by kernel_rfl) (by kernel_rfl)
abbrev yfTy:Type 1:=Int→Int→Int→{R:Type}→(Bool→Option R)→Option R
def z45z_ (g:Nat) (a1 a2 a3:Int) {R:Type} (k0:Bool→Option R):Option R :=
 (bif (decide (a1 < a2)) then k0 true else k0 (decide (a1 > a3)))
noncomputable def z45z [Fuel]:yfTy:=@z45z_ NN
def ydvy (g:yfTy):Spec A:=fun args=>match args with | [.d (.int .i64 a1),.d (.int .i64 a2),.d (.int .i64 a3)]=>fun k=>g a1 a2 a3 (fun z0=>k (.d (.bool z0)) [.undef,.undef,.undef]) | _=>fun _=>none
noncomputable def yLvy:Code:=(Tryz.f63.body).getD .skip
noncomputable def yMyy (g:Nat):Env A:=mkE [] [] [] [] [] [] [] [] [] []
theorem yJmy (g:Nat):Same (ydvy (@z45z_ g)) (abody (yMyy g) Tryz.f63 yLvy 0 [] [.asis] g):=by intro args;unfold ydvy;split;exact .inr fun R k=>(by kernel_rfl);exact .inl fun R k=>rfl
theorem yfey [Fuel]:Ok 63 (ydvy (@z45z _)):=yacy std .nil ⟨rfl,rfl,by kernel_rfl,rfl,rfl,rfl⟩ (yJmy NN) (cuts0 (fun _=>rfl) (by kernel_rfl)) Tryz.func63 (by kernel_rfl) (by kernel_rfl)
abbrev ykCy:Type 1:=Int→{R:Type}→(Bool→Option R)→Option R
structure C_z54z where
 N:Nat
 z45z:yfTy
def z54z_ (g:C_z54z) (a1:Int) {R:Type} (k0:Bool→Option R):Option R :=
 (g.z45z a1 0 345686399999 (fun r2=>k0 (!r2)))
noncomputable def yvky [Fuel]:C_z54z:=⟨NN,@z45z _⟩
noncomputable def z54z [Fuel]:ykCy:=@z54z_ yvky
def ygIy (g:ykCy):Spec A:=fun args=>match args with | [.d (.int .i64 a1)]=>fun k=>g a1 (fun z0=>k (.d (.bool z0)) [.undef]) | _=>fun _=>none
noncomputable def yLny:Code:=(Tryz.f62.body).getD .skip
noncomputable def yNry (g:C_z54z):Env A:=mkE [(63,ydvy g.z45z)] [] [] [] [] [] [] [] [] []
theorem yJqy (g:C_z54z):Same (ygIy (@z54z_ g)) (abody (yNry g) Tryz.f62 yLny 0 [] [.asis] g.N):=by intro args;unfold ygIy;split;exact .inr fun R k=>(by kernel_rfl);exact .inl fun R k=>rfl
theorem ypiy [Fuel]:Ok 62 (ygIy (@z54z _)):=yacy std (.cons yfey .nil) ⟨rfl,rfl,by kernel_rfl,rfl,rfl,rfl⟩ (yJqy yvky) (cuts0 (fun _=>rfl) (by kernel_rfl)) Tryz.func62 (by kernel_rfl) (by kernel_rfl)
abbrev yd0y:Type 1:=Int→{R:Type}→(Bool→Option R)→Option R
structure C_kit_IsMode where
 N:Nat
 z45z:yfTy
def yj3y (g:C_kit_IsMode) (a1:Int) {R:Type} (k0:Bool→Option R):Option R :=
 (g.z45z a1 1 3 (fun r2=>k0 (!r2)))
noncomputable def yixy [Fuel]:C_kit_IsMode:=⟨NN,@z45z _⟩
noncomputable def kit_IsMode [Fuel]:yd0y:=@yj3y yixy
def ycwy (g:yd0y):Spec A:=fun args=>match args with | [.d (.int .i64 a1)]=>fun k=>g a1 (fun z0=>k (.d (.bool z0)) [.undef]) | _=>fun _=>none
noncomputable def yJ0y:Code:=(Tryz.f81.body).getD .skip
noncomputable def yvCy (g:C_kit_IsMode):Env A:=mkE [(63,ydvy g.z45z)] [] [] [] [] [] [] [] [] []
theorem yuyy (g:C_kit_IsMode):Same (ycwy (@yj3y g)) (abody (yvCy g) Tryz.f81 yJ0y 0 [] [.asis] g.N):=by intro args;unfold ycwy;split;exact .inr fun R k=>(by kernel_rfl);exact .inl fun R k=>rfl
theorem yeIy [Fuel]:Ok 81 (ycwy (@kit_IsMode _)):=yacy std (.cons yfey .nil) ⟨rfl,rfl,by kernel_rfl,rfl,rfl,rfl⟩ (yuyy yixy) (cuts0 (fun _=>rfl) (by kernel_rfl)) Tryz.func81 (by kernel_rfl) (by kernel_rfl)
abbrev yvty:Type 1:=Int→{R:Type}→(Bool→Option R)→Option R
def z94z_ (g:Nat) (a1:Int) {R:Type} (k0:Bool→Option R):Option R :=
 (bif (decide (a1 ≥ 97)) then k0 (decide (a1≤122)) else k0 false)
noncomputable def z94z [Fuel]:yvty:=@z94z_ NN
def yopy (g:yvty):Spec A:=fun args=>match args with | [.d (.int .u8 a1)]=>fun k=>g a1 (fun z0=>k (.d (.bool z0)) [.undef]) | _=>fun _=>none
noncomputable def yGny:Code:=(Tryz.f263.body).getD .skip
noncomputable def yNiy (g:Nat):Env A:=mkE [] [] [] [] [] [] [] [] [] []
theorem yLIy (g:Nat):Same (yopy (@z94z_ g)) (abody (yNiy g) Tryz.f263 yGny 0 [] [.asis] g):=by intro args;unfold yopy;split;exact .inr fun R k=>(by kernel_rfl);exact .inl fun R k=>rfl
theorem yAYy [Fuel]:Ok 263 (yopy (@z94z _)):=yacy std .nil ⟨rfl,rfl,by kernel_rfl,rfl,rfl,rfl⟩ (yLIy NN) (cuts0 (fun _=>rfl) (by kernel_rfl)) Tryz.func263 (by kernel_rfl) (by kernel_rfl)
abbrev ysfy:Type 1:=Int→{R:Type}→(Bool→Option R)→Option R
def z91z_ (g:Nat) (a1:Int) {R:Type} (k0:Bool→Option R):Option R :=
 (bif (decide (a1 ≥ 48)) then k0 (decide (a1≤57)) else k0 false)
noncomputable def z91z [Fuel]:ysfy:=@z91z_ NN
def yk4y (g:ysfy):Spec A:=fun args=>match args with | [.d (.int .u8 a1)]=>fun k=>g a1 (fun z0=>k (.d (.bool z0)) [.undef]) | _=>fun _=>none
noncomputable def yGqy:Code:=(Tryz.f226.body).getD .skip
noncomputable def yMPy (g:Nat):Env A:=mkE [] [] [] [] [] [] [] [] [] []
theorem yKhy (g:Nat):Same (yk4y (@z91z_ g)) (abody (yMPy g) Tryz.f226 yGqy 0 [] [.asis] g):=by intro args;unfold yk4y;split;exact .inr fun R k=>(by kernel_rfl);exact .inl fun R k=>rfl
theorem ytcy [Fuel]:Ok 226 (yk4y (@z91z _)):=yacy std .nil ⟨rfl,rfl,by kernel_rfl,rfl,rfl,rfl⟩ (yKhy NN) (cuts0 (fun _=>rfl) (by kernel_rfl)) Tryz.func226 (by kernel_rfl) (by kernel_rfl)
abbrev ysCy:Type 1:=List UInt8→{R:Type}→(Int→Bool→Option R)→Option R
structure C_z51z where
 N:Nat
 z91z:ysfy
 z94z:yvty
def z51z_L2 (g:C_z51z):Nat→List UInt8→Int→Int→Int→{R:Type}→(Int→Bool→Option R)→(Int→Option R)→Option R
 | 0,_,_,_,_,_,_,_=>none
 | n + 1,v2,v3,v4,v5,_,e0,e1=>(bif (decide (v5 < v4)) then (get_ v2 v5 fun x10=>(g.z94z (x10.toNat:Int) (fun r11=>(bif r11 then z51z_L2 g n v2 (w64 (v3 + 1)) v4 (w64 (v5 + 1)) e0 e1 else (get_ v2 v5 fun x12=>(g.z91z (x12.toNat:Int) (fun r13=>(bif (!r13) then e0 0 false else z51z_L2 g n v2 v3 v4 (w64 (v5 + 1)) e0 e1)))))))) else e1 v3)
def z51z_ (g:C_z51z) (a1:List UInt8) {R:Type} (k0:Int→Bool→Option R):Option R :=
 (z51z_L2 g g.N a1 0 (a1.length:Int) 0 (fun e14 e15=>k0 e14 e15) (fun e16=>k0 e16 true))
noncomputable def ykXy [Fuel]:C_z51z:=⟨NN,@z91z _,@z94z _⟩
noncomputable def z51z [Fuel]:ysCy:=@z51z_ ykXy
def ykKy (g:ysCy):Spec A:=fun args=>match args with | [.d (.str a1)]=>fun k=>g a1 (fun z0 z1=>k (.tup [.d (.int .i64 z0),.d (.bool z1)]) [.undef]) | _=>fun _=>none
def ylJy:SSt:=mkSh 25 0 [(0,.str),(2,.int .i64),(6,.int .i64),(7,.int .i64)] []
def yfOy (g:C_z51z) (n:Nat):LPT A:=fun ps=>match ps with | [.d (.str p1),.d (.int .i64 p2),.d (.int .i64 p3),.d (.int .i64 p4)]=>fun K=>z51z_L2 g n p1 p2 p3 p4 (fun z0 z1=>K .ret (mkSt 25 0 [(2,.d (.int .i64 z0)),(3,.d (.bool z1))] [])) (fun z0=>K (.exit 0) (mkSt 25 0 [(2,.d (.int .i64 z0))] [])) | _=>fun _=>none
noncomputable def yvSy:Code:=(Tryz.f225.body).getD .skip
noncomputable def yrVy (g:C_z51z):Env A:=mkE [(226,yk4y g.z91z),(263,yopy g.z94z)] [] [(2,⟨[0,2,6,7],[],[],[],[],[],[]⟩)] [(2,⟨[2,3],[],[],[],[],[],[]⟩)] [(2,yajy ylJy (yfOy g g.N))] [] [] [] [] []
theorem yIly [Fuel]:yaky (yrVy ykXy).C:=ct_of (P:=Tryz.prog) (T:=T) (.cons ytcy (.cons yAYy .nil)) (by kernel_rfl)
noncomputable def yrxy:Code:=sub [1,0,1,0,0] yvSy
theorem yEry (g:C_z51z) (n:Nat):yaoy (yrVy g) g.N yrxy ylJy (yfOy g) n:=by intro ps;unfold yfOy;split;exact .inr fun R K=>(by kernel_rfl);exact .inl fun R K=>rfl
theorem yDey [Fuel]:yagy (yrVy ykXy) NN yrxy:=yaly ylJy (yfOy ykXy) (by kernel_rfl) yIly (cuts0 (fun _=>rfl) (by kernel_rfl)) (fun ps R K=>by unfold yfOy;split <;> (try unfold z51z_L2) <;> rfl) (yEry ykXy)
theorem yMcy (g:C_z51z):Same (ykKy (@z51z_ g)) (abody (yrVy g) Tryz.f225 yvSy 0 [] [.asis,.asis] g.N):=by intro args;unfold ykKy;split;exact .inr fun R k=>(by kernel_rfl);exact .inl fun R k=>rfl
theorem yACy [Fuel]:Ok 225 (ykKy (@z51z _)):=yacy std (.cons ytcy (.cons yAYy .nil)) ⟨rfl,rfl,by kernel_rfl,rfl,rfl,rfl⟩ (yMcy ykXy) (cutsL (fun _=>rfl) (.cons yDey .nil) (by kernel_rfl)) Tryz.func225 (by kernel_rfl) (by kernel_rfl)
abbrev yivy:Type 1:=List UInt8→{R:Type}→(Int→Bool→Option R)→Option R
structure C_call_split where
 N:Nat
 z5z:T_z5z
 z51z:ysCy
def ypLy (g:C_call_split) (a1:List UInt8) {R:Type} (k0:Int→Bool→Option R):Option R :=
 (g.z51z a1 (fun r2 r3=>(bif (!r3) then k0 0 false else (bif (decide ((a1.length:Int) > 10)) then k0 0 false else (g.z5z a1 [48,49,50,51,52,53,54,55,56,57] (fun r4=>(bif (decide (r4 < 1)) then k0 0 false else (bif (decide (r4 > 3)) then k0 0 false else (bif (decide ((w64 ((w64 ((a1.length:Int) - r4)) - 1)) < 1)) then k0 0 false else (bif (decide ((w64 ((w64 ((a1.length:Int) - r4)) - 1)) > 4)) then k0 0 false else (bif (decide (0≤r4)&&decide (r4≤(a1.length:Int))) then (g.z51z (a1.take (r4:Int).toNat) (fun r5 r6=>k0 r4 (decide (r5 > 0)))) else none)))))))))))
noncomputable def ynKy [Fuel]:C_call_split:=⟨NN,@z5z _,@z51z _⟩
noncomputable def call_split [Fuel]:yivy:=@ypLy ynKy
def yeNy (g:yivy):Spec A:=fun args=>match args with | [.d (.str a1)]=>fun k=>g a1 (fun z0 z1=>k (.tup [.d (.int .i64 z0),.d (.bool z1)]) [.undef]) | _=>fun _=>none
noncomputable def yHJy:Code:=(Tryz.f224.body).getD .skip
noncomputable def yyly (g:C_call_split):Env A:=mkE [(220,yu6y g.z5z),(225,ykKy g.z51z)] [] [] [] [] [] [] [] [] []
theorem yuVy (g:C_call_split):Same (yeNy (@ypLy g)) (abody (yyly g) Tryz.f224 yHJy 0 [] [.asis,.asis] g.N):=by intro args;unfold yeNy;split;exact .inr fun R k=>(by kernel_rfl);exact .inl fun R k=>rfl
theorem yu3y [Fuel]:Ok 224 (yeNy (@call_split _)):=yacy std (.cons yDPy (.cons yACy .nil)) ⟨rfl,rfl,by kernel_rfl,rfl,rfl,rfl⟩ (yuVy ynKy) (cuts0 (fun _=>rfl) (by kernel_rfl)) Tryz.func224 (by kernel_rfl) (by kernel_rfl)
abbrev yiWy:Type 1:=List UInt8→{R:Type}→(G_Parts→Bool→Option R)→Option R
structure C_call_based where
 N:Nat
 call_split:yivy
def ypKy (g:C_call_based) (a1:List UInt8) {R:Type} (k0:G_Parts→Bool→Option R):Option R :=
 (g.call_split a1 (fun r2 r3=>(bif (!r3) then k0 (⟨[],[],[],0,[]⟩:G_Parts) false else (bif (decide (0≤(w64 (r2 + 1)))&&decide ((w64 (r2 + 1))≤(a1.length:Int))) then (bif (decide (0≤(w64 (r2 + 1)))&&decide ((w64 (r2 + 1))≤(a1.length:Int))) then k0 (⟨a1,(a1.take ((w64 (r2 + 1)):Int).toNat),(a1.drop ((w64 (r2 + 1)):Int).toNat),0,[]⟩:G_Parts) true else none) else none))))
noncomputable def ymXy [Fuel]:C_call_based:=⟨NN,@call_split _⟩
noncomputable def call_based [Fuel]:yiWy:=@ypKy ymXy
def yeLy (g:yiWy):Spec A:=fun args=>match args with | [.d (.str a1)]=>fun k=>g a1 (fun z0 z1=>k (.tup [.agg [.d (.str z0.f_Base),.d (.str z0.f_Prefix),.d (.str z0.f_Suffix),.d (.int .i64 z0.f_Kind),.d (.str z0.f_Added)],.d (.bool z1)]) [.undef]) | _=>fun _=>none
noncomputable def yG7y:Code:=(Tryz.f174.body).getD .skip
noncomputable def ywLy (g:C_call_based):Env A:=mkE [(224,yeNy g.call_split)] [(2,[0])] [] [] [] [] [] [] [] []
theorem yuUy (g:C_call_based):Same (yeLy (@ypKy g)) (abody (ywLy g) Tryz.f174 yG7y 1 [] [.asis,.asis] g.N):=by intro args;unfold yeLy;split;exact .inr fun R k=>(by kernel_rfl);exact .inl fun R k=>rfl
theorem yu2y [Fuel]:Ok 174 (yeLy (@call_based _)):=yacy std (.cons yu3y .nil) ⟨rfl,rfl,by kernel_rfl,rfl,rfl,rfl⟩ (yuUy ymXy) (cuts0 (fun _=>rfl) (by kernel_rfl)) Tryz.func174 (by kernel_rfl) (by kernel_rfl)
end Go.Am
