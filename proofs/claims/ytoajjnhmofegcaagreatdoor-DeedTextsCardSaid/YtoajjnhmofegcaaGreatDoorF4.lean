/- The functions of the program as Lean functions, each shown to be what the code computes, part 4. No condition: lemmas for the claim. -/
import Derived.Test.YtoajjnhmofegcaaGreatDoorF0
import Derived.Test.YtoajjnhmofegcaaGreatDoorFSh
import Derived.Test.YtoajjnhmofegcaaGreatDoorF1
import Derived.Test.YtoajjnhmofegcaaGreatDoorF2
import Derived.Test.YtoajjnhmofegcaaGreatDoorF3
set_option linter.unusedVariables false
set_option maxRecDepth 100000
namespace Go.Am
open Go Go.Proofs
abbrev T_z9z:Type 1:=G_Deed→G_Deed→{R:Type}→(Bool→G_Deed→Option R)→Option R
structure C_z9z where
 N:Nat
 Q_sameNo:yldy
def z9z_ (g:C_z9z) (a1 a2:G_Deed) {R:Type} (k0:Bool→G_Deed→Option R):Option R :=
 (g.Q_sameNo a1 a2 (fun r3=>k0 r3 a2))
noncomputable def I_z9z [Fuel]:C_z9z:=⟨NN,@Q_sameNo _⟩
noncomputable def z9z [Fuel]:T_z9z:=@z9z_ I_z9z
def yp6y (g:T_z9z):Spec A:=fun args=>match args with | [.agg [.d (.str a1),.d (.int .i64 a2),.d (.int .i64 a3),.d (.int .i64 a4),.d (.int .i64 a5),.d (.int .i64 a6),.d (.str a7),.d (.str a8),.d (.int .i64 a9),.d (.int .i64 a10),.d (.str a11),.d (.str a12),.d (.str a13),.d (.str a14),.d (.int .i64 a15)],.box [.d (.str a16),.d (.int .i64 a17),.d (.int .i64 a18),.d (.int .i64 a19),.d (.int .i64 a20),.d (.int .i64 a21),.d (.str a22),.d (.str a23),.d (.int .i64 a24),.d (.int .i64 a25),.d (.str a26),.d (.str a27),.d (.str a28),.d (.str a29),.d (.int .i64 a30)]]=>fun k=>g ⟨a1,a2,a3,a4,⟨a5,a6,a7,a8,a9,a10,a11,a12⟩,a13,a14,a15⟩ ⟨a16,a17,a18,a19,⟨a20,a21,a22,a23,a24,a25,a26,a27⟩,a28,a29,a30⟩ (fun z0 z1=>k (.d (.bool z0)) [.undef,.box [.d (.str z1.f_Site),.d (.int .i64 z1.f_No),.d (.int .i64 z1.f_At),.d (.int .i64 z1.f_Kind),.d (.int .i64 z1.f_Contact.f_At),.d (.int .i64 z1.f_Contact.f_Mode),.d (.str z1.f_Contact.f_Band),.d (.str z1.f_Contact.f_Call),.d (.int .i64 z1.f_Contact.f_Sent),.d (.int .i64 z1.f_Contact.f_Heard),.d (.str z1.f_Contact.f_Gave),.d (.str z1.f_Contact.f_Got),.d (.str z1.f_Band),.d (.str z1.f_Of),.d (.int .i64 z1.f_Other)]]) | _=>fun _=>none
noncomputable def yCNy:Code:=(Tryz.f111.body).getD .skip
noncomputable def E_z9z (g:C_z9z):Env A:=mkE [(112,ygDy g.Q_sameNo)] [(2,[1])] [] [] [] [] [] [] [] [1]
theorem yI4y (g:C_z9z):Same (yp6y (@z9z_ g)) (abody (E_z9z g) Tryz.f111 yCNy 2 [0] [.asis] g.N):=by intro args;unfold yp6y;split;exact .inr fun R k=>(by kernel_rfl);exact .inl fun R k=>rfl
theorem yBwy [Fuel]:Ok 111 (yp6y (@z9z _)):=yacy std (.cons yxAy .nil) ⟨rfl,rfl,by kernel_rfl,rfl,rfl,rfl⟩ (yI4y I_z9z) (cuts0 (fun _=>rfl) (by kernel_rfl)) Tryz.func111 (by kernel_rfl) (by kernel_rfl)
abbrev T_z5z:Type 1:=List G_Deed→G_Deed→{R:Type}→(Int→G_Deed→Option R)→Option R
structure C_z5z where
 N:Nat
 z9z:T_z9z
def z5z_L2 (g:C_z5z):Nat→List G_Deed→Int→Int→G_Deed→{R:Type}→(Int→G_Deed→Option R)→(G_Deed→Option R)→Option R
 | 0,_,_,_,_,_,_,_=>none
 | n + 1,v3,v4,v5,v6,_,e0,e1=>(bif (decide (v5 < v4)) then (get_ v3 v5 fun x10=>(g.z9z x10 v6 (fun r11 r12=>(bif r11 then e0 v5 r12 else z5z_L2 g n v3 v4 (w64 (v5 + 1)) r12 e0 e1)))) else e1 v6)
def z5z_ (g:C_z5z) (a1:List G_Deed) (a2:G_Deed) {R:Type} (k0:Int→G_Deed→Option R):Option R :=
 (z5z_L2 g g.N a1 (a1.length:Int) 0 a2 (fun e13 e14=>k0 e13 e14) (fun e15=>k0 (-1) e15))
noncomputable def I_z5z [Fuel]:C_z5z:=⟨NN,@z9z _⟩
noncomputable def z5z [Fuel]:T_z5z:=@z5z_ I_z5z
def yqFy (g:T_z5z):Spec A:=fun args=>match args with | [.d (.sl 71 a1),.fn 111 [.box [.d (.str a2),.d (.int .i64 a3),.d (.int .i64 a4),.d (.int .i64 a5),.d (.int .i64 a6),.d (.int .i64 a7),.d (.str a8),.d (.str a9),.d (.int .i64 a10),.d (.int .i64 a11),.d (.str a12),.d (.str a13),.d (.str a14),.d (.str a15),.d (.int .i64 a16)]]]=>fun k=>g a1 ⟨a2,a3,a4,a5,⟨a6,a7,a8,a9,a10,a11,a12,a13⟩,a14,a15,a16⟩ (fun z0 z1=>k (.d (.int .i64 z0)) [.undef,.fn 111 [.box [.d (.str z1.f_Site),.d (.int .i64 z1.f_No),.d (.int .i64 z1.f_At),.d (.int .i64 z1.f_Kind),.d (.int .i64 z1.f_Contact.f_At),.d (.int .i64 z1.f_Contact.f_Mode),.d (.str z1.f_Contact.f_Band),.d (.str z1.f_Contact.f_Call),.d (.int .i64 z1.f_Contact.f_Sent),.d (.int .i64 z1.f_Contact.f_Heard),.d (.str z1.f_Contact.f_Gave),.d (.str z1.f_Contact.f_Got),.d (.str z1.f_Band),.d (.str z1.f_Of),.d (.int .i64 z1.f_Other)]]]) | _=>fun _=>none
def ymVy:SSt:=mkSh 19 1 [(0,.sl 71),(1,.fn 111 [.ptr 0 0]),(7,.int .i64),(8,.int .i64)] [(0,.box [.str,.int .i64,.int .i64,.int .i64,.int .i64,.int .i64,.str,.str,.int .i64,.int .i64,.str,.str,.str,.str,.int .i64])]
def ygWy (g:C_z5z) (n:Nat):LPT A:=fun ps=>match ps with | [.d (.sl 71 p1),.d (.int .i64 p2),.d (.int .i64 p3),.d (.str p4),.d (.int .i64 p5),.d (.int .i64 p6),.d (.int .i64 p7),.d (.int .i64 p8),.d (.int .i64 p9),.d (.str p10),.d (.str p11),.d (.int .i64 p12),.d (.int .i64 p13),.d (.str p14),.d (.str p15),.d (.str p16),.d (.str p17),.d (.int .i64 p18)]=>fun K=>z5z_L2 g n p1 p2 p3 ⟨p4,p5,p6,p7,⟨p8,p9,p10,p11,p12,p13,p14,p15⟩,p16,p17,p18⟩ (fun z0 z1=>K .ret (mkSt 19 1 [(1,.fn 111 [.ptr 0 0]),(4,.d (.int .i64 z0))] [(0,some (.box [.d (.str z1.f_Site),.d (.int .i64 z1.f_No),.d (.int .i64 z1.f_At),.d (.int .i64 z1.f_Kind),.d (.int .i64 z1.f_Contact.f_At),.d (.int .i64 z1.f_Contact.f_Mode),.d (.str z1.f_Contact.f_Band),.d (.str z1.f_Contact.f_Call),.d (.int .i64 z1.f_Contact.f_Sent),.d (.int .i64 z1.f_Contact.f_Heard),.d (.str z1.f_Contact.f_Gave),.d (.str z1.f_Contact.f_Got),.d (.str z1.f_Band),.d (.str z1.f_Of),.d (.int .i64 z1.f_Other)]))])) (fun z0=>K (.exit 0) (mkSt 19 1 [(1,.fn 111 [.ptr 0 0])] [(0,some (.box [.d (.str z0.f_Site),.d (.int .i64 z0.f_No),.d (.int .i64 z0.f_At),.d (.int .i64 z0.f_Kind),.d (.int .i64 z0.f_Contact.f_At),.d (.int .i64 z0.f_Contact.f_Mode),.d (.str z0.f_Contact.f_Band),.d (.str z0.f_Contact.f_Call),.d (.int .i64 z0.f_Contact.f_Sent),.d (.int .i64 z0.f_Contact.f_Heard),.d (.str z0.f_Contact.f_Gave),.d (.str z0.f_Contact.f_Got),.d (.str z0.f_Band),.d (.str z0.f_Of),.d (.int .i64 z0.f_Other)]))])) | _=>fun _=>none
noncomputable def yuby:Code:=(Tryz.f161.body).getD .skip
noncomputable def E_z5z (g:C_z5z):Env A:=mkE [(111,yp6y g.z9z)] [] [(2,⟨[0,1,7,8],[],[0],[],[],[],[]⟩)] [(2,⟨[1,4],[],[0],[],[],[],[]⟩)] [(2,yajy ymVy (ygWy g g.N))] [] [] [] [] [1]
theorem yIBy [Fuel]:yahy (E_z5z I_z5z).C:=ct_of (P:=Tryz.prog) (T:=T) (.cons yBwy .nil) (by kernel_rfl)
noncomputable def ysEy:Code:=sub [1,0,1,0,0] yuby
theorem yEvy (g:C_z5z) (n:Nat):yaCy (E_z5z g) g.N ysEy ymVy (ygWy g) n:=by intro ps;unfold ygWy;split;exact .inr fun R K=>(by kernel_rfl);exact .inl fun R K=>rfl
theorem yBNy [Fuel]:yaiy (E_z5z I_z5z) NN ysEy:=yamy ymVy (ygWy I_z5z) (by kernel_rfl) yIBy (cuts0 (fun _=>rfl) (by kernel_rfl)) (fun ps R K=>by unfold ygWy;split <;> (try unfold z5z_L2) <;> rfl) (yEvy I_z5z)
theorem yH1y (g:C_z5z):Same (yqFy (@z5z_ g)) (abody (E_z5z g) Tryz.f161 yuby 1 [0] [.asis] g.N):=by intro args;unfold yqFy;split;exact .inr fun R k=>(by kernel_rfl);exact .inl fun R k=>rfl
theorem yJHy [Fuel]:Ok 161 (yqFy (@z5z _)):=yacy std (.cons yBwy .nil) ⟨rfl,rfl,by kernel_rfl,rfl,rfl,rfl⟩ (yH1y I_z5z) (cutsL (fun _=>rfl) (.cons yBNy .nil) (by kernel_rfl)) Tryz.func161 (by kernel_rfl) (by kernel_rfl)
abbrev yuqy:Type 1:=List G_Deed→G_Deed→{R:Type}→(Bool→G_Deed→Option R)→Option R
structure C_z18z where
 N:Nat
 z5z:T_z5z
def z18z_ (g:C_z18z) (a1:List G_Deed) (a2:G_Deed) {R:Type} (k0:Bool→G_Deed→Option R):Option R :=
 (g.z5z a1 a2 (fun r3 r4=>k0 (decide (r3 ≥ 0)) r4))
noncomputable def yvSy [Fuel]:C_z18z:=⟨NN,@z5z _⟩
noncomputable def z18z [Fuel]:yuqy:=@z18z_ yvSy
def yn9y (g:yuqy):Spec A:=fun args=>match args with | [.d (.sl 71 a1),.fn 111 [.box [.d (.str a2),.d (.int .i64 a3),.d (.int .i64 a4),.d (.int .i64 a5),.d (.int .i64 a6),.d (.int .i64 a7),.d (.str a8),.d (.str a9),.d (.int .i64 a10),.d (.int .i64 a11),.d (.str a12),.d (.str a13),.d (.str a14),.d (.str a15),.d (.int .i64 a16)]]]=>fun k=>g a1 ⟨a2,a3,a4,a5,⟨a6,a7,a8,a9,a10,a11,a12,a13⟩,a14,a15,a16⟩ (fun z0 z1=>k (.d (.bool z0)) [.undef,.fn 111 [.box [.d (.str z1.f_Site),.d (.int .i64 z1.f_No),.d (.int .i64 z1.f_At),.d (.int .i64 z1.f_Kind),.d (.int .i64 z1.f_Contact.f_At),.d (.int .i64 z1.f_Contact.f_Mode),.d (.str z1.f_Contact.f_Band),.d (.str z1.f_Contact.f_Call),.d (.int .i64 z1.f_Contact.f_Sent),.d (.int .i64 z1.f_Contact.f_Heard),.d (.str z1.f_Contact.f_Gave),.d (.str z1.f_Contact.f_Got),.d (.str z1.f_Band),.d (.str z1.f_Of),.d (.int .i64 z1.f_Other)]]]) | _=>fun _=>none
noncomputable def yDjy:Code:=(Tryz.f110.body).getD .skip
noncomputable def yJby (g:C_z18z):Env A:=mkE [(161,yqFy g.z5z)] [] [] [] [] [] [] [] [(161,0)] [1]
theorem yHCy (g:C_z18z):Same (yn9y (@z18z_ g)) (abody (yJby g) Tryz.f110 yDjy 1 [0] [.asis] g.N):=by intro args;unfold yn9y;split;exact .inr fun R k=>(by kernel_rfl);exact .inl fun R k=>rfl
theorem yyVy [Fuel]:Ok 110 (yn9y (@z18z _)):=yacy std (.cons yJHy .nil) ⟨rfl,rfl,by kernel_rfl,rfl,rfl,rfl⟩ (yHCy yvSy) (cuts0 (fun _=>rfl) (by kernel_rfl)) Tryz.func110 (by kernel_rfl) (by kernel_rfl)
abbrev T_z3z:Type 1:=List G_Deed→{R:Type}→(Int→Option R)→Option R
structure C_z3z where
 N:Nat
 z2z:T_z2z
 z49z:yvay
 z18z:yuqy
def z3z_L4 (g:C_z3z):Nat→List G_Deed→List G_Deed→Int→Int→{R:Type}→(List G_Deed→Int→Option R)→(List G_Deed→Option R)→Option R
 | 0,_,_,_,_,_,_,_=>none
 | n + 1,v2,v3,v4,v5,_,e0,e1=>(bif (decide (v5 < v4)) then (get_ v3 v5 fun x10=>(g.z49z x10 (fun r11=>(bif (r11 != 0) then e0 v2 r11 else (bif (decide (v5 > 0)) then (get_ v2 (w64 (v5 - 1)) fun x12=>(g.z2z x12 x10 (fun r13=>(bif (decide (r13 ≥ 0)) then e0 v2 7 else z3z_L4 g n v2 v3 v4 (w64 (v5 + 1)) e0 e1)))) else z3z_L4 g n v2 v3 v4 (w64 (v5 + 1)) e0 e1))))) else e1 v2)
def z3z_L13 (g:C_z3z):Nat→List G_Deed→List G_Deed→Int→Int→{R:Type}→(Int→Option R)→Option R→Option R
 | 0,_,_,_,_,_,_,_=>none
 | n + 1,v17,v18,v19,v20,_,e0,e1=>(bif (decide (v20 < v19)) then (get_ v18 v20 fun x24=>(bif (decide (0≤v20)&&decide (v20≤(v17.length:Int))) then (g.z18z (v17.take (v20:Int).toNat) x24 (fun r25 r26=>(bif r25 then e0 6 else z3z_L13 g n v17 v18 v19 (w64 (v20 + 1)) e0 e1))) else none)) else e1)
def z3z_ (g:C_z3z) (a1:List G_Deed) {R:Type} (k0:Int→Option R):Option R :=
 (bif (decide ((a1.length:Int) > 2000)) then k0 2 else (z3z_L4 g g.N a1 a1 (a1.length:Int) 0 (fun e14 e15=>k0 e15) (fun e16=>(z3z_L13 g g.N e16 e16 (e16.length:Int) 0 (fun e27=>k0 e27) (k0 0)))))
noncomputable def I_z3z [Fuel]:C_z3z:=⟨NN,@z2z _,@z49z _,@z18z _⟩
noncomputable def z3z [Fuel]:T_z3z:=@z3z_ I_z3z
def yj4y (g:T_z3z):Spec A:=fun args=>match args with | [.d (.sl 71 a1)]=>fun k=>g a1 (fun z0=>k (.d (.int .i64 z0)) [.undef]) | _=>fun _=>none
def ymEy:SSt:=mkSh 49 2 [(0,.sl 71),(11,.sl 71),(12,.int .i64),(13,.int .i64)] []
def yg4y (g:C_z3z) (n:Nat):LPT A:=fun ps=>match ps with | [.d (.sl 71 p1),.d (.sl 71 p2),.d (.int .i64 p3),.d (.int .i64 p4)]=>fun K=>z3z_L4 g n p1 p2 p3 p4 (fun z0 z1=>K .ret (mkSt 49 2 [(0,.d (.sl 71 z0)),(2,.d (.int .i64 z1))] [])) (fun z0=>K (.exit 0) (mkSt 49 2 [(0,.d (.sl 71 z0))] [])) | _=>fun _=>none
def ylpy:SSt:=mkSh 49 2 [(0,.sl 71),(36,.sl 71),(37,.int .i64),(38,.int .i64)] []
def yfQy (g:C_z3z) (n:Nat):LPT A:=fun ps=>match ps with | [.d (.sl 71 p1),.d (.sl 71 p2),.d (.int .i64 p3),.d (.int .i64 p4)]=>fun K=>z3z_L13 g n p1 p2 p3 p4 (fun z0=>K .ret (mkSt 49 2 [(2,.d (.int .i64 z0))] [])) (K (.exit 2) (mkSt 49 2 [] [])) | _=>fun _=>none
noncomputable def yrjy:Code:=(Tryz.f38.body).getD .skip
noncomputable def E_z3z (g:C_z3z):Env A:=mkE [(105,yl3y g.z2z),(109,ynQy g.z49z),(110,yn9y g.z18z)] [(4,[0]),(7,[1])] [(4,⟨[0,11,12,13],[],[],[],[],[],[]⟩),(13,⟨[0,36,37,38],[],[],[],[],[],[]⟩)] [(4,⟨[0,2],[],[],[],[],[],[]⟩),(13,⟨[2],[],[],[],[],[],[]⟩)] [(4,yajy ymEy (yg4y g g.N)),(13,yajy ylpy (yfQy g g.N))] [] [] [] [] []
theorem yA7y [Fuel]:yahy (E_z3z I_z3z).C:=ct_of (P:=Tryz.prog) (T:=T) (.cons yqLy (.cons yyuy (.cons yyVy .nil))) (by kernel_rfl)
noncomputable def ysGy:Code:=sub [1,1,0,1,0,0] yrjy
theorem yD7y (g:C_z3z) (n:Nat):yaCy (E_z3z g) g.N ysGy ymEy (yg4y g) n:=by intro ps;unfold yg4y;split;exact .inr fun R K=>(by kernel_rfl);exact .inl fun R K=>rfl
theorem yCpy [Fuel]:yaiy (E_z3z I_z3z) NN ysGy:=yamy ymEy (yg4y I_z3z) (by kernel_rfl) yA7y (cuts0 (fun _=>rfl) (by kernel_rfl)) (fun ps R K=>by unfold yg4y;split <;> (try unfold z3z_L4) <;> rfl) (yD7y I_z3z)
noncomputable def ypDy:Code:=sub [1,1,1,0,1,0,0] yrjy
theorem yAQy (g:C_z3z) (n:Nat):yaCy (E_z3z g) g.N ypDy ylpy (yfQy g) n:=by intro ps;unfold yfQy;split;exact .inr fun R K=>(by kernel_rfl);exact .inl fun R K=>rfl
theorem yzzy [Fuel]:yaiy (E_z3z I_z3z) NN ypDy:=yamy ylpy (yfQy I_z3z) (by kernel_rfl) yA7y (cuts0 (fun _=>rfl) (by kernel_rfl)) (fun ps R K=>by unfold yfQy;split <;> (try unfold z3z_L13) <;> rfl) (yAQy I_z3z)
theorem yJly (g:C_z3z):Same (yj4y (@z3z_ g)) (abody (E_z3z g) Tryz.f38 yrjy 2 [] [.asis] g.N):=by intro args;unfold yj4y;split;exact .inr fun R k=>(by kernel_rfl);exact .inl fun R k=>rfl
theorem ypTy [Fuel]:Ok 38 (yj4y (@z3z _)):=yacy std (.cons yqLy (.cons yyuy (.cons yyVy .nil))) ⟨rfl,rfl,by kernel_rfl,rfl,rfl,rfl⟩ (yJly I_z3z) (cutsL (fun _=>rfl) (.cons yCpy (.cons yzzy .nil)) (by kernel_rfl)) Tryz.func38 (by kernel_rfl) (by kernel_rfl)
abbrev yvby:Type 1:=G_Stream→Int→{R:Type}→(List G_Deed→G_Stream→Option R)→Option R
structure C_z24z where
 N:Nat
 z13z:yqhy
 z3z:T_z3z
def z24z_L2 (g:C_z24z):Nat→Int→Int→G_Stream→{R:Type}→(G_Stream→List G_Deed→Option R)→(G_Stream→Option R)→Option R
 | 0,_,_,_,_,_,_=>none
 | n + 1,v3,v4,v5,_,e0,e1=>(bif (decide (v4 < 5)) then (g.z13z v5 v3 (fun r9 r10=>(g.z3z r9 (fun r11=>(bif (r11 == 0) then e0 r10 r9 else z24z_L2 g n v3 (w64 (v4 + 1)) r10 e0 e1))))) else e1 v5)
def z24z_ (g:C_z24z) (a1:G_Stream) (a2:Int) {R:Type} (k0:List G_Deed→G_Stream→Option R):Option R :=
 (z24z_L2 g g.N a2 0 a1 (fun e12 e13=>k0 e13 e12) (fun e14=>k0 [] e14))
noncomputable def yfVy [Fuel]:C_z24z:=⟨NN,@z13z _,@z3z _⟩
noncomputable def z24z [Fuel]:yvby:=@z24z_ yfVy
def ynxy (g:yvby):Spec A:=fun args=>match args with | [.box [.d (.sl 3 a1),.d (.int .i64 a2)],.d (.int .i64 a3)]=>fun k=>g ⟨a1,a2⟩ a3 (fun z0 z1=>k (.arr 71 z0) [.box [.d (.sl 3 z1.f_L),.d (.int .i64 z1.f_at)],.undef]) | _=>fun _=>none
def ylty:SSt:=mkSh 16 2 [(0,.ptr 0 0),(1,.int .i64),(6,.int .i64)] [(0,.box [.sl 3,.int .i64])]
def yfey (g:C_z24z) (n:Nat):LPT A:=fun ps=>match ps with | [.d (.int .i64 p1),.d (.int .i64 p2),.d (.sl 3 p3),.d (.int .i64 p4)]=>fun K=>z24z_L2 g n p1 p2 ⟨p3,p4⟩ (fun z0 z1=>K .ret (mkSt 16 2 [(0,.ptr 0 0),(4,.own 71 1)] [(0,some (.box [.d (.sl 3 z0.f_L),.d (.int .i64 z0.f_at)])),(1,some (.row 71 z1))])) (fun z0=>K (.exit 0) (mkSt 16 2 [(0,.ptr 0 0)] [(0,some (.box [.d (.sl 3 z0.f_L),.d (.int .i64 z0.f_at)]))])) | _=>fun _=>none
noncomputable def yt4y:Code:=(Tryz.f106.body).getD .skip
noncomputable def yqpy (g:C_z24z):Env A:=mkE [(35,ykhy g.z13z),(38,yj4y g.z3z)] [(10,[1])] [(2,⟨[0,1,6],[],[0],[],[],[],[]⟩)] [(2,⟨[0,4],[],[0,1],[],[],[],[]⟩)] [(2,yajy ylty (yfey g g.N))] [] [] [] [] [0]
theorem yGKy [Fuel]:yahy (yqpy yfVy).C:=ct_of (P:=Tryz.prog) (T:=T) (.cons yrqy (.cons ypTy .nil)) (by kernel_rfl)
noncomputable def yqzy:Code:=sub [1,0,1,0,0] yt4y
theorem yCqy (g:C_z24z) (n:Nat):yaCy (yqpy g) g.N yqzy ylty (yfey g) n:=by intro ps;unfold yfey;split;exact .inr fun R K=>(by kernel_rfl);exact .inl fun R K=>rfl
theorem yzhy [Fuel]:yaiy (yqpy yfVy) NN yqzy:=yamy ylty (yfey yfVy) (by kernel_rfl) yGKy (cuts0 (fun _=>rfl) (by kernel_rfl)) (fun ps R K=>by unfold yfey;split <;> (try unfold z24z_L2) <;> rfl) (yCqy yfVy)
theorem yFey (g:C_z24z):Same (ynxy (@z24z_ g)) (abody (yqpy g) Tryz.f106 yt4y 2 [0] [.arr 71] g.N):=by intro args;unfold ynxy;split;exact .inr fun R k=>(by kernel_rfl);exact .inl fun R k=>rfl
theorem yyXy [Fuel]:Ok 106 (ynxy (@z24z _)):=yacy std (.cons yrqy (.cons ypTy .nil)) ⟨rfl,rfl,by kernel_rfl,rfl,rfl,rfl⟩ (yFey yfVy) (cutsL (fun _=>rfl) (.cons yzhy .nil) (by kernel_rfl)) Tryz.func106 (by kernel_rfl) (by kernel_rfl)
abbrev ybGy:Type 1:=Int→{R:Type}→(List UInt8→Option R)→Option R
def strconv_Itoa [Fuel]:ybGy:=@yl5y
def ybPy (g:ybGy):Spec A:=yh3y g
theorem ybry [Fuel]:Ok 79 (ybPy (@strconv_Itoa _)):=⟨yrxy (fun w h=>h) (fun n w h0 h1 ht=>Any.strconv_Itoa Tryz.laysM171 n h0 h1 w ht),yvgy,enters_of (fn:=Tryz.f79) Tryz.func79 (by kernel_rfl) (by kernel_rfl)⟩
abbrev yc1y:Type 1:=List (List UInt8)→List UInt8→{R:Type}→(List UInt8→Option R)→Option R
def strings_Join [Fuel]:yc1y:=@yj3y (List UInt8) (fun x=>x)
def ybMy (g:yc1y):Spec A:=fun args=>match args with | [.d (.sl 9 a1),.d (.str a2)]=>fun k=>g a1 a2 (fun z=>k (.d (.str z)) [.undef,.undef]) | _=>fun _=>none
theorem yi5y [Fuel] (xs:List (A 9)) (sep:List UInt8) (R:Type) (k:IV A→List (IV A)→Option R):ybMy (@strings_Join _) [.d (.sl 9 xs),.d (.str sep)] k = yj3y (α:=A 9) (fun (x:List UInt8)=>x) xs sep (fun z=>k (.d (.str z)) [.undef,.undef]):=by kernel_rfl
theorem yiLy [Fuel] (args:List (IV A)) (R:Type) (k:IV A→List (IV A)→Option R) (h:∀ (xs:List (A 9)) (sep:List UInt8),args≠[.d (.sl 9 xs),.d (.str sep)]):ybMy (@strings_Join _) args k = none:=by unfold ybMy;split;exact absurd rfl (h _ _);rfl
theorem ydyy [Fuel]:Ok 86 (ybMy (@strings_Join _)):=⟨yG0y rfl (e:=9) (fun (x:List UInt8)=>x) (fun _=>rfl) rfl (fun a c sep w=>Go.Proofs.Any.strings_Join_none Tryz.lays156 Tryz.bx156 a c sep w) (fun bk o c xs sep w h1 h2 h3 h4 h5=>Go.Proofs.Any.strings_Join Tryz.lays156 Tryz.bx156 bk o c xs sep w h1 h2 h3 h4 h5) yi5y yiLy,yHPy (e:=9) (fun (x:List UInt8)=>x) yi5y yiLy,enters_of (fn:=Tryz.f86) Tryz.func86 (by kernel_rfl) (by kernel_rfl)⟩
abbrev yi7y:Type 1:=List Int→{R:Type}→(List UInt8→Option R)→Option R
structure C_Q_Numbers where
 N:Nat
 strconv_Itoa:ybGy
 strings_Join:yc1y
def yb3y (g:C_Q_Numbers):Nat→List Int→Int→Int→List (List UInt8)→{R:Type}→(List (List UInt8)→Option R)→Option R
 | 0,_,_,_,_,_,_=>none
 | n + 1,v2,v3,v4,v5,_,e0=>(bif (decide (v4 < v3)) then (get_ v2 v4 fun x8=>(g.strconv_Itoa x8 (fun r9=>(bif (decide ((v5.length + [r9].length) * 16≤yaey)) then yb3y g n v2 v3 (w64 (v4 + 1)) (v5++[r9]) e0 else none)))) else e0 v5)
def yrey (g:C_Q_Numbers) (a1:List Int) {R:Type} (k0:List UInt8→Option R):Option R :=
 (yb3y g g.N a1 (a1.length:Int) 0 [] (fun e10=>(g.strings_Join e10 [32] (fun r11=>k0 r11))))
noncomputable def ybvy [Fuel]:C_Q_Numbers:=⟨NN,@strconv_Itoa _,@strings_Join _⟩
noncomputable def Q_Numbers [Fuel]:yi7y:=@yrey ybvy
def yfCy (g:yi7y):Spec A:=fun args=>match args with | [.d (.sl 3 a1)]=>fun k=>g a1 (fun z0=>k (.d (.str z0)) [.undef]) | _=>fun _=>none
def yfdy:SSt:=mkSh 20 3 [(3,.own 9 0),(6,.sl 3),(7,.int .i64),(8,.int .i64)] [(0,.row 9)]
def ycuy (g:C_Q_Numbers) (n:Nat):LPT A:=fun ps=>match ps with | [.d (.sl 3 p1),.d (.int .i64 p2),.d (.int .i64 p3),.d (.sl 9 p4)]=>fun K=>yb3y g n p1 p2 p3 p4 (fun z0=>K (.exit 0) (mkSt 20 3 [(3,.own 9 0)] [(0,some (.row 9 z0))])) | _=>fun _=>none
noncomputable def yxPy:Code:=(Tryz.f99.body).getD .skip
noncomputable def ygOy (g:C_Q_Numbers):Env A:=mkE [(79,ybPy g.strconv_Itoa),(86,ybMy g.strings_Join)] [(15,[1]),(16,[2])] [(3,⟨[3,6,7,8],[(3,9,0)],[],[],[],[],[]⟩)] [(3,⟨[3],[],[0],[],[],[],[]⟩)] [(3,yajy yfdy (ycuy g g.N))] [] [] [] [] []
theorem ytZy [Fuel]:yahy (ygOy ybvy).C:=ct_of (P:=Tryz.prog) (T:=T) (.cons ybry (.cons ydyy .nil)) (by kernel_rfl)
noncomputable def yiQy:Code:=sub [1,1,0,1,0,0] yxPy
theorem yrDy (g:C_Q_Numbers) (n:Nat):yaCy (ygOy g) g.N yiQy yfdy (ycuy g) n:=by intro ps;unfold ycuy;split;exact .inr fun R K=>(by kernel_rfl);exact .inl fun R K=>rfl
theorem ypJy [Fuel]:yaiy (ygOy ybvy) NN yiQy:=yamy yfdy (ycuy ybvy) (by kernel_rfl) ytZy (cuts0 (fun _=>rfl) (by kernel_rfl)) (fun ps R K=>by unfold ycuy;split <;> (try unfold yb3y) <;> rfl) (yrDy ybvy)
theorem yuuy (g:C_Q_Numbers):Same (yfCy (@yrey g)) (abody (ygOy g) Tryz.f99 yxPy 3 [] [.asis] g.N):=by intro args;unfold yfCy;split;exact .inr fun R k=>(by kernel_rfl);exact .inl fun R k=>rfl
theorem ylVy [Fuel]:Ok 99 (yfCy (@Q_Numbers _)):=yacy std (.cons ybry (.cons ydyy .nil)) ⟨rfl,rfl,by kernel_rfl,rfl,rfl,rfl⟩ (yuuy ybvy) (cutsL (fun _=>rfl) (.cons ypJy .nil) (by kernel_rfl)) Tryz.func99 (by kernel_rfl) (by kernel_rfl)
abbrev yp8y:Type 1:={R:Type}→(List (List UInt8)→Option R)→Option R
def z81z_ (g:Nat)  {R:Type} (k0:List (List UInt8)→Option R):Option R :=
 k0 [[],[99,111,100,101],[118,111,105,99,101],[100,97,116,97]]
noncomputable def z81z [Fuel]:yp8y:=@z81z_ NN
def yjGy (g:yp8y):Spec A:=fun args=>match args with | []=>fun k=>g (fun z0=>k (.arr 9 z0) []) | _=>fun _=>none
noncomputable def yHny:Code:=(Tryz.f88.body).getD .skip
noncomputable def yJpy (g:Nat):Env A:=mkE [] [(1,[0])] [] [] [] [] [] [] [] []
theorem yFRy (g:Nat):Same (yjGy (@z81z_ g)) (abody (yJpy g) Tryz.f88 yHny 1 [] [.arr 9] g):=by intro args;unfold yjGy;split;exact .inr fun R k=>(by kernel_rfl);exact .inl fun R k=>rfl
theorem yxOy [Fuel]:Ok 88 (yjGy (@z81z _)):=yacy std .nil ⟨rfl,rfl,by kernel_rfl,rfl,rfl,rfl⟩ (yFRy NN) (cuts0 (fun _=>rfl) (by kernel_rfl)) Tryz.func88 (by kernel_rfl) (by kernel_rfl)
abbrev yoRy:Type 1:=List UInt8→{R:Type}→(List UInt8→Option R)→Option R
def ynAy (g:Nat) (a1:List UInt8) {R:Type} (k0:List UInt8→Option R):Option R :=
 (bif (a1 == []) then k0 [45] else k0 a1)
noncomputable def Q_dash [Fuel]:yoRy:=@ynAy NN
def yiBy (g:yoRy):Spec A:=fun args=>match args with | [.d (.str a1)]=>fun k=>g a1 (fun z0=>k (.d (.str z0)) [.undef]) | _=>fun _=>none
noncomputable def yEsy:Code:=(Tryz.f124.body).getD .skip
noncomputable def yEby (g:Nat):Env A:=mkE [] [] [] [] [] [] [] [] [] []
theorem yBUy (g:Nat):Same (yiBy (@ynAy g)) (abody (yEby g) Tryz.f124 yEsy 0 [] [.asis] g):=by intro args;unfold yiBy;split;exact .inr fun R k=>(by kernel_rfl);exact .inl fun R k=>rfl
theorem yADy [Fuel]:Ok 124 (yiBy (@Q_dash _)):=yacy std .nil ⟨rfl,rfl,by kernel_rfl,rfl,rfl,rfl⟩ (yBUy NN) (cuts0 (fun _=>rfl) (by kernel_rfl)) Tryz.func124 (by kernel_rfl) (by kernel_rfl)
abbrev yvWy:Type 1:=G_Contact→{R:Type}→(List UInt8→Option R)→Option R
structure C_z63z where
 N:Nat
 strconv_Itoa:ybGy
 strings_Join:yc1y
 z81z:yp8y
 Q_dash:yoRy
def z63z_ (g:C_z63z) (a1:G_Contact) {R:Type} (k0:List UInt8→Option R):Option R :=
 (g.strconv_Itoa a1.f_At (fun r2=>(g.z81z (fun r3=>(inr r3 a1.f_Mode (at_ r3 a1.f_Mode fun x4=>(g.strconv_Itoa a1.f_Sent (fun r5=>(g.Q_dash a1.f_Gave (fun r6=>(g.strconv_Itoa a1.f_Heard (fun r7=>(g.Q_dash a1.f_Got (fun r8=>(g.strings_Join [r2,x4,a1.f_Band,a1.f_Call,r5,r6,r7,r8] [32] (fun r9=>k0 r9))))))))))))))))
noncomputable def yeoy [Fuel]:C_z63z:=⟨NN,@strconv_Itoa _,@strings_Join _,@z81z _,@Q_dash _⟩
noncomputable def z63z [Fuel]:yvWy:=@z63z_ yeoy
def yndy (g:yvWy):Spec A:=fun args=>match args with | [.agg [.d (.int .i64 a1),.d (.int .i64 a2),.d (.str a3),.d (.str a4),.d (.int .i64 a5),.d (.int .i64 a6),.d (.str a7),.d (.str a8)]]=>fun k=>g ⟨a1,a2,a3,a4,a5,a6,a7,a8⟩ (fun z0=>k (.d (.str z0)) [.undef]) | _=>fun _=>none
noncomputable def yHjy:Code:=(Tryz.f59.body).getD .skip
noncomputable def yIdy (g:C_z63z):Env A:=mkE [(79,ybPy g.strconv_Itoa),(86,ybMy g.strings_Join),(88,yjGy g.z81z),(124,yiBy g.Q_dash)] [(1,[0]),(6,[1]),(27,[2])] [] [] [] [] [] [] [] []
theorem yE0y (g:C_z63z):Same (yndy (@z63z_ g)) (abody (yIdy g) Tryz.f59 yHjy 3 [] [.asis] g.N):=by intro args;unfold yndy;split;exact .inr fun R k=>(by kernel_rfl);exact .inl fun R k=>rfl
theorem yyxy [Fuel]:Ok 59 (yndy (@z63z _)):=yacy std (.cons ybry (.cons ydyy (.cons yxOy (.cons yADy .nil)))) ⟨rfl,rfl,by kernel_rfl,rfl,rfl,rfl⟩ (yE0y yeoy) (cuts0 (fun _=>rfl) (by kernel_rfl)) Tryz.func59 (by kernel_rfl) (by kernel_rfl)
abbrev yp4y:Type 1:=List G_Deed→{R:Type}→(List UInt8→Option R)→Option R
structure C_z33z where
 N:Nat
 z63z:yvWy
 strconv_Itoa:ybGy
 Q_Numbers:yi7y
def z33z_L3 (g:C_z33z):Nat→List UInt8→List G_Deed→Int→Int→{R:Type}→(List UInt8→Option R)→Option R
 | 0,_,_,_,_,_,_=>none
 | n + 1,v2,v3,v4,v5,_,e0=>(bif (decide (v5 < v4)) then (get_ v3 v5 fun x12=>(bif (strOk x12.f_Site [32]) then (g.Q_Numbers [x12.f_No,x12.f_At] (fun r13=>(bif (strOk (x12.f_Site++[32]) r13) then (bif (strOk ((x12.f_Site++[32])++r13) [32]) then (bif (strOk v2 (((x12.f_Site++[32])++r13)++[32])) then (bif (x12.f_Kind == 1) then (g.z63z x12.f_Contact (fun r14=>(bif (strOk [108,111,103,32] r14) then (bif (strOk (v2++(((x12.f_Site++[32])++r13)++[32])) ([108,111,103,32]++r14)) then (bif (strOk ((v2++(((x12.f_Site++[32])++r13)++[32]))++([108,111,103,32]++r14)) [10]) then z33z_L3 g n (((v2++(((x12.f_Site++[32])++r13)++[32]))++([108,111,103,32]++r14))++[10]) v3 v4 (w64 (v5 + 1)) e0 else none) else none) else none))) else (bif (x12.f_Kind == 2) then (bif (strOk [116,117,110,101,32] x12.f_Band) then (bif (strOk (v2++(((x12.f_Site++[32])++r13)++[32])) ([116,117,110,101,32]++x12.f_Band)) then (bif (strOk ((v2++(((x12.f_Site++[32])++r13)++[32]))++([116,117,110,101,32]++x12.f_Band)) [10]) then z33z_L3 g n (((v2++(((x12.f_Site++[32])++r13)++[32]))++([116,117,110,101,32]++x12.f_Band))++[10]) v3 v4 (w64 (v5 + 1)) e0 else none) else none) else none) else (bif (x12.f_Kind == 3) then (g.strconv_Itoa x12.f_Contact.f_Sent (fun r15=>(bif (strOk [104,101,108,100,32] r15) then (bif (strOk (v2++(((x12.f_Site++[32])++r13)++[32])) ([104,101,108,100,32]++r15)) then (bif (strOk ((v2++(((x12.f_Site++[32])++r13)++[32]))++([104,101,108,100,32]++r15)) [10]) then z33z_L3 g n (((v2++(((x12.f_Site++[32])++r13)++[32]))++([104,101,108,100,32]++r15))++[10]) v3 v4 (w64 (v5 + 1)) e0 else none) else none) else none))) else (bif (x12.f_Kind == 4) then (g.strconv_Itoa x12.f_Contact.f_Sent (fun r16=>(bif (strOk [102,114,101,101,32] r16) then (bif (strOk (v2++(((x12.f_Site++[32])++r13)++[32])) ([102,114,101,101,32]++r16)) then (bif (strOk ((v2++(((x12.f_Site++[32])++r13)++[32]))++([102,114,101,101,32]++r16)) [10]) then z33z_L3 g n (((v2++(((x12.f_Site++[32])++r13)++[32]))++([102,114,101,101,32]++r16))++[10]) v3 v4 (w64 (v5 + 1)) e0 else none) else none) else none))) else (bif (strOk [117,110,100,111,32] x12.f_Of) then (bif (strOk ([117,110,100,111,32]++x12.f_Of) [32]) then (g.strconv_Itoa x12.f_Other (fun r17=>(bif (strOk (([117,110,100,111,32]++x12.f_Of)++[32]) r17) then (bif (strOk (v2++(((x12.f_Site++[32])++r13)++[32])) ((([117,110,100,111,32]++x12.f_Of)++[32])++r17)) then (bif (strOk ((v2++(((x12.f_Site++[32])++r13)++[32]))++((([117,110,100,111,32]++x12.f_Of)++[32])++r17)) [10]) then z33z_L3 g n (((v2++(((x12.f_Site++[32])++r13)++[32]))++((([117,110,100,111,32]++x12.f_Of)++[32])++r17))++[10]) v3 v4 (w64 (v5 + 1)) e0 else none) else none) else none))) else none) else none))))) else none) else none) else none))) else none)) else e0 v2)
def z33z_ (g:C_z33z) (a1:List G_Deed) {R:Type} (k0:List UInt8→Option R):Option R :=
 (z33z_L3 g g.N [] a1 (a1.length:Int) 0 (fun e18=>k0 e18))
noncomputable def ydMy [Fuel]:C_z33z:=⟨NN,@z63z _,@strconv_Itoa _,@Q_Numbers _⟩
noncomputable def z33z [Fuel]:yp4y:=@z33z_ ydMy
def yjOy (g:yp4y):Spec A:=fun args=>match args with | [.d (.sl 71 a1)]=>fun k=>g a1 (fun z0=>k (.d (.str z0)) [.undef]) | _=>fun _=>none
def ylvy:SSt:=mkSh 74 2 [(3,.str),(6,.sl 71),(7,.int .i64),(8,.int .i64)] []
def yfSy (g:C_z33z) (n:Nat):LPT A:=fun ps=>match ps with | [.d (.str p1),.d (.sl 71 p2),.d (.int .i64 p3),.d (.int .i64 p4)]=>fun K=>z33z_L3 g n p1 p2 p3 p4 (fun z0=>K (.exit 0) (mkSt 74 2 [(3,.d (.str z0))] [])) | _=>fun _=>none
noncomputable def yyPy:Code:=(Tryz.f39.body).getD .skip
noncomputable def ypHy (g:C_z33z):Env A:=mkE [(59,yndy g.z63z),(79,ybPy g.strconv_Itoa),(99,yfCy g.Q_Numbers)] [(5,[0]),(20,[1])] [(3,⟨[3,6,7,8],[],[],[],[],[],[]⟩)] [(3,⟨[3],[],[],[],[],[],[]⟩)] [(3,yajy ylvy (yfSy g g.N))] [] [] [] [] []
theorem yHSy [Fuel]:yahy (ypHy ydMy).C:=ct_of (P:=Tryz.prog) (T:=T) (.cons yyxy (.cons ybry (.cons ylVy .nil))) (by kernel_rfl)
noncomputable def yq1y:Code:=sub [1,1,0,1,0,0] yyPy
theorem yCjy (g:C_z33z) (n:Nat):yaCy (ypHy g) g.N yq1y ylvy (yfSy g) n:=by intro ps;unfold yfSy;split;exact .inr fun R K=>(by kernel_rfl);exact .inl fun R K=>rfl
theorem yzQy [Fuel]:yaiy (ypHy ydMy) NN yq1y:=yamy ylvy (yfSy ydMy) (by kernel_rfl) yHSy (cuts0 (fun _=>rfl) (by kernel_rfl)) (fun ps R K=>by unfold yfSy;split <;> (try unfold z33z_L3) <;> rfl) (yCjy ydMy)
theorem yEJy (g:C_z33z):Same (yjOy (@z33z_ g)) (abody (ypHy g) Tryz.f39 yyPy 2 [] [.asis] g.N):=by intro args;unfold yjOy;split;exact .inr fun R k=>(by kernel_rfl);exact .inl fun R k=>rfl
theorem yrMy [Fuel]:Ok 39 (yjOy (@z33z _)):=yacy std (.cons yyxy (.cons ybry (.cons ylVy .nil))) ⟨rfl,rfl,by kernel_rfl,rfl,rfl,rfl⟩ (yEJy ydMy) (cutsL (fun _=>rfl) (.cons yzQy .nil) (by kernel_rfl)) Tryz.func39 (by kernel_rfl) (by kernel_rfl)
abbrev yvMy:Type 1:=G_Stream→List UInt8→List UInt8→{R:Type}→(List UInt8→G_Stream→Option R)→Option R
structure C_z54z where
 N:Nat
 z29z:yfGy
def z54z_ (g:C_z54z) (a1:G_Stream) (a2 a3:List UInt8) {R:Type} (k0:List UInt8→G_Stream→Option R):Option R :=
 (bif (a2 == []) then k0 a3 a1 else (bif (a3 == []) then k0 a3 a1 else (g.z29z a1 (a2.length:Int) (fun r4 r5=>(g.z29z r5 (a3.length:Int) (fun r6 r7=>(get_ a3 r6 fun x8=>(g.z29z r7 3 (fun r9 r10=>(bif (r9 == 0) then (bif (decide (0≤r4)&&decide (r4≤(a2.length:Int))) then (bif (decide (0≤(IntKind.i32.wrap (x8.toNat:Int)))&&decide ((IntKind.i32.wrap (x8.toNat:Int)) < 128)) then (bif (strOk (a2.take (r4:Int).toNat) [((IntKind.i32.wrap (x8.toNat:Int))).toNat.toUInt8]) then (bif (decide (0≤(w64 (r4 + 1)))&&decide ((w64 (r4 + 1))≤(a2.length:Int))) then (bif (strOk ((a2.take (r4:Int).toNat)++[((IntKind.i32.wrap (x8.toNat:Int))).toNat.toUInt8]) (a2.drop ((w64 (r4 + 1)):Int).toNat)) then k0 (((a2.take (r4:Int).toNat)++[((IntKind.i32.wrap (x8.toNat:Int))).toNat.toUInt8])++(a2.drop ((w64 (r4 + 1)):Int).toNat)) r10 else none) else none) else none) else none) else none) else (bif (r9 == 1) then (bif (decide (0≤r4)&&decide (r4≤(a2.length:Int))) then (bif (decide (0≤(IntKind.i32.wrap (x8.toNat:Int)))&&decide ((IntKind.i32.wrap (x8.toNat:Int)) < 128)) then (bif (strOk (a2.take (r4:Int).toNat) [((IntKind.i32.wrap (x8.toNat:Int))).toNat.toUInt8]) then (bif (decide (0≤r4)&&decide (r4≤(a2.length:Int))) then (bif (strOk ((a2.take (r4:Int).toNat)++[((IntKind.i32.wrap (x8.toNat:Int))).toNat.toUInt8]) (a2.drop (r4:Int).toNat)) then k0 (((a2.take (r4:Int).toNat)++[((IntKind.i32.wrap (x8.toNat:Int))).toNat.toUInt8])++(a2.drop (r4:Int).toNat)) r10 else none) else none) else none) else none) else none) else (bif (decide (0≤r4)&&decide (r4≤(a2.length:Int))) then (bif (decide (0≤(w64 (r4 + 1)))&&decide ((w64 (r4 + 1))≤(a2.length:Int))) then (bif (strOk (a2.take (r4:Int).toNat) (a2.drop ((w64 (r4 + 1)):Int).toNat)) then k0 ((a2.take (r4:Int).toNat)++(a2.drop ((w64 (r4 + 1)):Int).toNat)) r10 else none) else none) else none))))))))))))
noncomputable def yf2y [Fuel]:C_z54z:=⟨NN,@z29z _⟩
noncomputable def z54z [Fuel]:yvMy:=@z54z_ yf2y
def ynUy (g:yvMy):Spec A:=fun args=>match args with | [.box [.d (.sl 3 a1),.d (.int .i64 a2)],.d (.str a3),.d (.str a4)]=>fun k=>g ⟨a1,a2⟩ a3 a4 (fun z0 z1=>k (.d (.str z0)) [.box [.d (.sl 3 z1.f_L),.d (.int .i64 z1.f_at)],.undef,.undef]) | _=>fun _=>none
noncomputable def yESy:Code:=(Tryz.f52.body).getD .skip
noncomputable def yJgy (g:C_z54z):Env A:=mkE [(50,ydny g.z29z)] [] [] [] [] [] [] [] [] [0]
theorem yGMy (g:C_z54z):Same (ynUy (@z54z_ g)) (abody (yJgy g) Tryz.f52 yESy 1 [0] [.asis] g.N):=by intro args;unfold ynUy;split;exact .inr fun R k=>(by kernel_rfl);exact .inl fun R k=>rfl
theorem yyyy [Fuel]:Ok 52 (ynUy (@z54z _)):=yacy std (.cons yeYy .nil) ⟨rfl,rfl,by kernel_rfl,rfl,rfl,rfl⟩ (yGMy yf2y) (cuts0 (fun _=>rfl) (by kernel_rfl)) Tryz.func52 (by kernel_rfl) (by kernel_rfl)
end Go.Am
