/- The functions of the program as Lean functions, each shown to be what the code computes, part 4. No condition: lemmas for the claim. -/
import Derived.Test.YtphcgliehecbkaaGreatDoorF0
import Derived.Test.YtphcgliehecbkaaGreatDoorFSh
import Derived.Test.YtphcgliehecbkaaGreatDoorF1
import Derived.Test.YtphcgliehecbkaaGreatDoorF2
import Derived.Test.YtphcgliehecbkaaGreatDoorF3
set_option linter.unusedVariables false
set_option maxRecDepth 100000
namespace Go.Am
open Go Go.Proofs
abbrev T_z9z:Type 1:=G_Deed→G_Deed→{R:Type}→(Bool→G_Deed→Option R)→Option R
structure C_z9z where
 N:Nat
 Q_sameNo:yjYy
def z9z_ (g:C_z9z) (a1 a2:G_Deed) {R:Type} (k0:Bool→G_Deed→Option R):Option R :=
 (g.Q_sameNo a1 a2 (fun r3=>k0 r3 a2))
noncomputable def I_z9z [Fuel]:C_z9z:=⟨NN,@Q_sameNo _⟩
noncomputable def z9z [Fuel]:T_z9z:=@z9z_ I_z9z
def ypry (g:T_z9z):Spec A:=fun args=>match args with | [.agg [.d (.str a1),.d (.int .i64 a2),.d (.int .i64 a3),.d (.int .i64 a4),.d (.int .i64 a5),.d (.int .i64 a6),.d (.str a7),.d (.str a8),.d (.int .i64 a9),.d (.int .i64 a10),.d (.str a11),.d (.str a12),.d (.str a13),.d (.str a14),.d (.int .i64 a15)],.box [.d (.str a16),.d (.int .i64 a17),.d (.int .i64 a18),.d (.int .i64 a19),.d (.int .i64 a20),.d (.int .i64 a21),.d (.str a22),.d (.str a23),.d (.int .i64 a24),.d (.int .i64 a25),.d (.str a26),.d (.str a27),.d (.str a28),.d (.str a29),.d (.int .i64 a30)]]=>fun k=>g ⟨a1,a2,a3,a4,⟨a5,a6,a7,a8,a9,a10,a11,a12⟩,a13,a14,a15⟩ ⟨a16,a17,a18,a19,⟨a20,a21,a22,a23,a24,a25,a26,a27⟩,a28,a29,a30⟩ (fun z0 z1=>k (.d (.bool z0)) [.undef,.box [.d (.str z1.f_Site),.d (.int .i64 z1.f_No),.d (.int .i64 z1.f_At),.d (.int .i64 z1.f_Kind),.d (.int .i64 z1.f_Contact.f_At),.d (.int .i64 z1.f_Contact.f_Mode),.d (.str z1.f_Contact.f_Band),.d (.str z1.f_Contact.f_Call),.d (.int .i64 z1.f_Contact.f_Sent),.d (.int .i64 z1.f_Contact.f_Heard),.d (.str z1.f_Contact.f_Gave),.d (.str z1.f_Contact.f_Got),.d (.str z1.f_Band),.d (.str z1.f_Of),.d (.int .i64 z1.f_Other)]]) | _=>fun _=>none
noncomputable def yFAy:Code:=(Tryz.f52.body).getD .skip
noncomputable def E_z9z (g:C_z9z):Env A:=mkE [(53,yfTy g.Q_sameNo)] [(2,[1])] [] [] [] [] [] [] [] [1]
theorem yJdy (g:C_z9z):Same (ypry (@z9z_ g)) (abody (E_z9z g) Tryz.f52 yFAy 2 [0] [.asis] g.N):=by intro args; unfold ypry; split; exact .inr fun R k=>(by kernel_rfl); exact .inl fun R k=>rfl
theorem yAty [Fuel]:Ok 52 (ypry (@z9z _)):=yacy std (.cons yv6y .nil) ⟨rfl,rfl,by kernel_rfl,rfl,rfl,rfl⟩ (yJdy I_z9z) (cuts0 (fun _=>rfl) (by kernel_rfl)) Tryz.func52 (by kernel_rfl) (by kernel_rfl)
abbrev T_z5z:Type 1:=List G_Deed→G_Deed→{R:Type}→(Int→G_Deed→Option R)→Option R
structure C_z5z where
 N:Nat
 z9z:T_z9z
def z5z_L2 (g:C_z5z):Nat→List G_Deed→Int→Int→G_Deed→{R:Type}→(Int→G_Deed→Option R)→(G_Deed→Option R)→Option R
 | 0,_,_,_,_,_,_,_=>none
 | n + 1,v3,v4,v5,v6,_,e0,e1=>(bif (decide (v5 < v4)) then (get_ v3 v5 fun x10=>(g.z9z x10 v6 (fun r11 r12=>(bif r11 then e0 v5 r12 else z5z_L2 g n v3 v4 (w64 (v5 + 1)) r12 e0 e1)))) else e1 v6)
def z5z_ (g:C_z5z) (a1:List G_Deed) (a2:G_Deed) {R:Type} (k0:Int→G_Deed→Option R):Option R :=
 (z5z_L2 g g.N a1 (a1.length:Int) 0 a2 (fun e13 e14=>k0 e13 e14) (fun e15=>k0 (-1) e15))
noncomputable def I_z5z [Fuel]:C_z5z:=⟨NN,@z9z _⟩
noncomputable def z5z [Fuel]:T_z5z:=@z5z_ I_z5z
def yoyy (g:T_z5z):Spec A:=fun args=>match args with | [.d (.sl 35 a1),.fn 52 [.box [.d (.str a2),.d (.int .i64 a3),.d (.int .i64 a4),.d (.int .i64 a5),.d (.int .i64 a6),.d (.int .i64 a7),.d (.str a8),.d (.str a9),.d (.int .i64 a10),.d (.int .i64 a11),.d (.str a12),.d (.str a13),.d (.str a14),.d (.str a15),.d (.int .i64 a16)]]]=>fun k=>g a1 ⟨a2,a3,a4,a5,⟨a6,a7,a8,a9,a10,a11,a12,a13⟩,a14,a15,a16⟩ (fun z0 z1=>k (.d (.int .i64 z0)) [.undef,.fn 52 [.box [.d (.str z1.f_Site),.d (.int .i64 z1.f_No),.d (.int .i64 z1.f_At),.d (.int .i64 z1.f_Kind),.d (.int .i64 z1.f_Contact.f_At),.d (.int .i64 z1.f_Contact.f_Mode),.d (.str z1.f_Contact.f_Band),.d (.str z1.f_Contact.f_Call),.d (.int .i64 z1.f_Contact.f_Sent),.d (.int .i64 z1.f_Contact.f_Heard),.d (.str z1.f_Contact.f_Gave),.d (.str z1.f_Contact.f_Got),.d (.str z1.f_Band),.d (.str z1.f_Of),.d (.int .i64 z1.f_Other)]]]) | _=>fun _=>none
def ykUy:SSt:=mkSh 19 1 [(0,.sl 35),(1,.fn 52 [.ptr 0 0]),(7,.int .i64),(8,.int .i64)] [(0,.box [.str,.int .i64,.int .i64,.int .i64,.int .i64,.int .i64,.str,.str,.int .i64,.int .i64,.str,.str,.str,.str,.int .i64])]
def ygby (g:C_z5z) (n:Nat):LPT A:=fun ps=>match ps with | [.d (.sl 35 p1),.d (.int .i64 p2),.d (.int .i64 p3),.d (.str p4),.d (.int .i64 p5),.d (.int .i64 p6),.d (.int .i64 p7),.d (.int .i64 p8),.d (.int .i64 p9),.d (.str p10),.d (.str p11),.d (.int .i64 p12),.d (.int .i64 p13),.d (.str p14),.d (.str p15),.d (.str p16),.d (.str p17),.d (.int .i64 p18)]=>fun K=>z5z_L2 g n p1 p2 p3 ⟨p4,p5,p6,p7,⟨p8,p9,p10,p11,p12,p13,p14,p15⟩,p16,p17,p18⟩ (fun z0 z1=>K .ret (mkSt 19 1 [(1,.fn 52 [.ptr 0 0]),(4,.d (.int .i64 z0))] [(0,some (.box [.d (.str z1.f_Site),.d (.int .i64 z1.f_No),.d (.int .i64 z1.f_At),.d (.int .i64 z1.f_Kind),.d (.int .i64 z1.f_Contact.f_At),.d (.int .i64 z1.f_Contact.f_Mode),.d (.str z1.f_Contact.f_Band),.d (.str z1.f_Contact.f_Call),.d (.int .i64 z1.f_Contact.f_Sent),.d (.int .i64 z1.f_Contact.f_Heard),.d (.str z1.f_Contact.f_Gave),.d (.str z1.f_Contact.f_Got),.d (.str z1.f_Band),.d (.str z1.f_Of),.d (.int .i64 z1.f_Other)]))])) (fun z0=>K (.exit 0) (mkSt 19 1 [(1,.fn 52 [.ptr 0 0])] [(0,some (.box [.d (.str z0.f_Site),.d (.int .i64 z0.f_No),.d (.int .i64 z0.f_At),.d (.int .i64 z0.f_Kind),.d (.int .i64 z0.f_Contact.f_At),.d (.int .i64 z0.f_Contact.f_Mode),.d (.str z0.f_Contact.f_Band),.d (.str z0.f_Contact.f_Call),.d (.int .i64 z0.f_Contact.f_Sent),.d (.int .i64 z0.f_Contact.f_Heard),.d (.str z0.f_Contact.f_Gave),.d (.str z0.f_Contact.f_Got),.d (.str z0.f_Band),.d (.str z0.f_Of),.d (.int .i64 z0.f_Other)]))])) | _=>fun _=>none
noncomputable def yxly:Code:=(Tryz.f57.body).getD .skip
noncomputable def E_z5z (g:C_z5z):Env A:=mkE [(52,ypry g.z9z)] [] [(2,⟨[0,1,7,8],[],[0],[],[],[],[]⟩)] [(2,⟨[1,4],[],[0],[],[],[],[]⟩)] [(2,yaiy ykUy (ygby g g.N))] [] [] [] [] [1]
theorem yJvy [Fuel]:yajy (E_z5z I_z5z).C:=ct_of (P:=Tryz.prog) (T:=T) (.cons yAty .nil) (by kernel_rfl)
noncomputable def yrey:Code:=sub [1,0,1,0,0] yxly
theorem yCWy (g:C_z5z) (n:Nat):yamy (E_z5z g) g.N yrey ykUy (ygby g) n:=by intro ps; unfold ygby; split; exact .inr fun R K=>(by kernel_rfl); exact .inl fun R K=>rfl
theorem yAiy [Fuel]:yagy (E_z5z I_z5z) NN yrey:=yaky ykUy (ygby I_z5z) (by kernel_rfl) yJvy (cuts0 (fun _=>rfl) (by kernel_rfl)) (fun ps R K=>by unfold ygby; split <;> (try unfold z5z_L2) <;> rfl) (yCWy I_z5z)
theorem yH2y (g:C_z5z):Same (yoyy (@z5z_ g)) (abody (E_z5z g) Tryz.f57 yxly 1 [0] [.asis] g.N):=by intro args; unfold yoyy; split; exact .inr fun R k=>(by kernel_rfl); exact .inl fun R k=>rfl
theorem yIvy [Fuel]:Ok 57 (yoyy (@z5z _)):=yacy std (.cons yAty .nil) ⟨rfl,rfl,by kernel_rfl,rfl,rfl,rfl⟩ (yH2y I_z5z) (cutsL (fun _=>rfl) (.cons yAiy .nil) (by kernel_rfl)) Tryz.func57 (by kernel_rfl) (by kernel_rfl)
abbrev yuay:Type 1:=List G_Deed→G_Deed→{R:Type}→(Bool→G_Deed→Option R)→Option R
structure C_z20z where
 N:Nat
 z5z:T_z5z
def z20z_ (g:C_z20z) (a1:List G_Deed) (a2:G_Deed) {R:Type} (k0:Bool→G_Deed→Option R):Option R :=
 (g.z5z a1 a2 (fun r3 r4=>k0 (decide (r3 ≥ 0)) r4))
noncomputable def ysYy [Fuel]:C_z20z:=⟨NN,@z5z _⟩
noncomputable def z20z [Fuel]:yuay:=@z20z_ ysYy
def ylPy (g:yuay):Spec A:=fun args=>match args with | [.d (.sl 35 a1),.fn 52 [.box [.d (.str a2),.d (.int .i64 a3),.d (.int .i64 a4),.d (.int .i64 a5),.d (.int .i64 a6),.d (.int .i64 a7),.d (.str a8),.d (.str a9),.d (.int .i64 a10),.d (.int .i64 a11),.d (.str a12),.d (.str a13),.d (.str a14),.d (.str a15),.d (.int .i64 a16)]]]=>fun k=>g a1 ⟨a2,a3,a4,a5,⟨a6,a7,a8,a9,a10,a11,a12,a13⟩,a14,a15,a16⟩ (fun z0 z1=>k (.d (.bool z0)) [.undef,.fn 52 [.box [.d (.str z1.f_Site),.d (.int .i64 z1.f_No),.d (.int .i64 z1.f_At),.d (.int .i64 z1.f_Kind),.d (.int .i64 z1.f_Contact.f_At),.d (.int .i64 z1.f_Contact.f_Mode),.d (.str z1.f_Contact.f_Band),.d (.str z1.f_Contact.f_Call),.d (.int .i64 z1.f_Contact.f_Sent),.d (.int .i64 z1.f_Contact.f_Heard),.d (.str z1.f_Contact.f_Gave),.d (.str z1.f_Contact.f_Got),.d (.str z1.f_Band),.d (.str z1.f_Of),.d (.int .i64 z1.f_Other)]]]) | _=>fun _=>none
noncomputable def yGDy:Code:=(Tryz.f51.body).getD .skip
noncomputable def yHZy (g:C_z20z):Env A:=mkE [(57,yoyy g.z5z)] [] [] [] [] [] [] [] [(57,0)] [1]
theorem yHUy (g:C_z20z):Same (ylPy (@z20z_ g)) (abody (yHZy g) Tryz.f51 yGDy 1 [0] [.asis] g.N):=by intro args; unfold ylPy; split; exact .inr fun R k=>(by kernel_rfl); exact .inl fun R k=>rfl
theorem yxqy [Fuel]:Ok 51 (ylPy (@z20z _)):=yacy std (.cons yIvy .nil) ⟨rfl,rfl,by kernel_rfl,rfl,rfl,rfl⟩ (yHUy ysYy) (cuts0 (fun _=>rfl) (by kernel_rfl)) Tryz.func51 (by kernel_rfl) (by kernel_rfl)
abbrev T_z4z:Type 1:=List G_Deed→{R:Type}→(Int→Option R)→Option R
structure C_z4z where
 N:Nat
 z2z:T_z2z
 z81z:ytWy
 z20z:yuay
def z4z_L4 (g:C_z4z):Nat→List G_Deed→List G_Deed→Int→Int→{R:Type}→(List G_Deed→Int→Option R)→(List G_Deed→Option R)→Option R
 | 0,_,_,_,_,_,_,_=>none
 | n + 1,v2,v3,v4,v5,_,e0,e1=>(bif (decide (v5 < v4)) then (get_ v3 v5 fun x10=>(g.z81z x10 (fun r11=>(bif (r11 != 0) then e0 v2 r11 else (bif (decide (v5 > 0)) then (get_ v2 (w64 (v5 - 1)) fun x12=>(g.z2z x12 x10 (fun r13=>(bif (decide (r13 ≥ 0)) then e0 v2 7 else z4z_L4 g n v2 v3 v4 (w64 (v5 + 1)) e0 e1)))) else z4z_L4 g n v2 v3 v4 (w64 (v5 + 1)) e0 e1))))) else e1 v2)
def z4z_L13 (g:C_z4z):Nat→List G_Deed→List G_Deed→Int→Int→{R:Type}→(Int→Option R)→Option R→Option R
 | 0,_,_,_,_,_,_,_=>none
 | n + 1,v17,v18,v19,v20,_,e0,e1=>(bif (decide (v20 < v19)) then (get_ v18 v20 fun x24=>(bif (decide (0≤v20) && decide (v20≤(v17.length:Int))) then (g.z20z (v17.take (v20:Int).toNat) x24 (fun r25 r26=>(bif r25 then e0 6 else z4z_L13 g n v17 v18 v19 (w64 (v20 + 1)) e0 e1))) else none)) else e1)
def z4z_ (g:C_z4z) (a1:List G_Deed) {R:Type} (k0:Int→Option R):Option R :=
 (bif (decide ((a1.length:Int) > 2000)) then k0 2 else (z4z_L4 g g.N a1 a1 (a1.length:Int) 0 (fun e14 e15=>k0 e15) (fun e16=>(z4z_L13 g g.N e16 e16 (e16.length:Int) 0 (fun e27=>k0 e27) (k0 0)))))
noncomputable def I_z4z [Fuel]:C_z4z:=⟨NN,@z2z _,@z81z _,@z20z _⟩
noncomputable def z4z [Fuel]:T_z4z:=@z4z_ I_z4z
def yomy (g:T_z4z):Spec A:=fun args=>match args with | [.d (.sl 35 a1)]=>fun k=>g a1 (fun z0=>k (.d (.int .i64 z0)) [.undef]) | _=>fun _=>none
def ylyy:SSt:=mkSh 49 2 [(0,.sl 35),(11,.sl 35),(12,.int .i64),(13,.int .i64)] []
def yf9y (g:C_z4z) (n:Nat):LPT A:=fun ps=>match ps with | [.d (.sl 35 p1),.d (.sl 35 p2),.d (.int .i64 p3),.d (.int .i64 p4)]=>fun K=>z4z_L4 g n p1 p2 p3 p4 (fun z0 z1=>K .ret (mkSt 49 2 [(0,.d (.sl 35 z0)),(2,.d (.int .i64 z1))] [])) (fun z0=>K (.exit 0) (mkSt 49 2 [(0,.d (.sl 35 z0))] [])) | _=>fun _=>none
def yjKy:SSt:=mkSh 49 2 [(0,.sl 35),(36,.sl 35),(37,.int .i64),(38,.int .i64)] []
def yexy (g:C_z4z) (n:Nat):LPT A:=fun ps=>match ps with | [.d (.sl 35 p1),.d (.sl 35 p2),.d (.int .i64 p3),.d (.int .i64 p4)]=>fun K=>z4z_L13 g n p1 p2 p3 p4 (fun z0=>K .ret (mkSt 49 2 [(2,.d (.int .i64 z0))] [])) (K (.exit 2) (mkSt 49 2 [] [])) | _=>fun _=>none
noncomputable def yqPy:Code:=(Tryz.f22.body).getD .skip
noncomputable def E_z4z (g:C_z4z):Env A:=mkE [(48,ylFy g.z2z),(50,ymuy g.z81z),(51,ylPy g.z20z)] [(4,[0]),(7,[1])] [(4,⟨[0,11,12,13],[],[],[],[],[],[]⟩),(13,⟨[0,36,37,38],[],[],[],[],[],[]⟩)] [(4,⟨[0,2],[],[],[],[],[],[]⟩),(13,⟨[2],[],[],[],[],[],[]⟩)] [(4,yaiy ylyy (yf9y g g.N)),(13,yaiy yjKy (yexy g g.N))] [] [] [] [] []
theorem yAay [Fuel]:yajy (E_z4z I_z4z).C:=ct_of (P:=Tryz.prog) (T:=T) (.cons yoIy (.cons yxQy (.cons yxqy .nil))) (by kernel_rfl)
noncomputable def yrCy:Code:=sub [1,1,0,1,0,0] yqPy
theorem yCSy (g:C_z4z) (n:Nat):yamy (E_z4z g) g.N yrCy ylyy (yf9y g) n:=by intro ps; unfold yf9y; split; exact .inr fun R K=>(by kernel_rfl); exact .inl fun R K=>rfl
theorem yB6y [Fuel]:yagy (E_z4z I_z4z) NN yrCy:=yaky ylyy (yf9y I_z4z) (by kernel_rfl) yAay (cuts0 (fun _=>rfl) (by kernel_rfl)) (fun ps R K=>by unfold yf9y; split <;> (try unfold z4z_L4) <;> rfl) (yCSy I_z4z)
noncomputable def ypey:Code:=sub [1,1,1,0,1,0,0] yqPy
theorem yBZy (g:C_z4z) (n:Nat):yamy (E_z4z g) g.N ypey yjKy (yexy g) n:=by intro ps; unfold yexy; split; exact .inr fun R K=>(by kernel_rfl); exact .inl fun R K=>rfl
theorem yyuy [Fuel]:yagy (E_z4z I_z4z) NN ypey:=yaky yjKy (yexy I_z4z) (by kernel_rfl) yAay (cuts0 (fun _=>rfl) (by kernel_rfl)) (fun ps R K=>by unfold yexy; split <;> (try unfold z4z_L13) <;> rfl) (yBZy I_z4z)
theorem yH5y (g:C_z4z):Same (yomy (@z4z_ g)) (abody (E_z4z g) Tryz.f22 yqPy 2 [] [.asis] g.N):=by intro args; unfold yomy; split; exact .inr fun R k=>(by kernel_rfl); exact .inl fun R k=>rfl
theorem yBpy [Fuel]:Ok 22 (yomy (@z4z _)):=yacy std (.cons yoIy (.cons yxQy (.cons yxqy .nil))) ⟨rfl,rfl,by kernel_rfl,rfl,rfl,rfl⟩ (yH5y I_z4z) (cutsL (fun _=>rfl) (.cons yB6y (.cons yyuy .nil)) (by kernel_rfl)) Tryz.func22 (by kernel_rfl) (by kernel_rfl)
abbrev ytqy:Type 1:=G_Stream→Int→{R:Type}→(List G_Deed→G_Stream→Option R)→Option R
structure C_z27z where
 N:Nat
 z18z:yudy
 z4z:T_z4z
def z27z_L2 (g:C_z27z):Nat→Int→Int→G_Stream→{R:Type}→(G_Stream→List G_Deed→Option R)→(G_Stream→Option R)→Option R
 | 0,_,_,_,_,_,_=>none
 | n + 1,v3,v4,v5,_,e0,e1=>(bif (decide (v4 < 5)) then (g.z18z v5 v3 (fun r9 r10=>(g.z4z r9 (fun r11=>(bif (r11 == 0) then e0 r10 r9 else z27z_L2 g n v3 (w64 (v4 + 1)) r10 e0 e1))))) else e1 v5)
def z27z_ (g:C_z27z) (a1:G_Stream) (a2:Int) {R:Type} (k0:List G_Deed→G_Stream→Option R):Option R :=
 (z27z_L2 g g.N a2 0 a1 (fun e12 e13=>k0 e13 e12) (fun e14=>k0 [] e14))
noncomputable def yeiy [Fuel]:C_z27z:=⟨NN,@z18z _,@z4z _⟩
noncomputable def z27z [Fuel]:ytqy:=@z27z_ yeiy
def ymvy (g:ytqy):Spec A:=fun args=>match args with | [.box [.d (.sl 3 a1),.d (.int .i64 a2)],.d (.int .i64 a3)]=>fun k=>g ⟨a1,a2⟩ a3 (fun z0 z1=>k (.arr 35 z0) [.box [.d (.sl 3 z1.f_L),.d (.int .i64 z1.f_at)],.undef]) | _=>fun _=>none
def yjdy:SSt:=mkSh 16 2 [(0,.ptr 0 0),(1,.int .i64),(6,.int .i64)] [(0,.box [.sl 3,.int .i64])]
def yefy (g:C_z27z) (n:Nat):LPT A:=fun ps=>match ps with | [.d (.int .i64 p1),.d (.int .i64 p2),.d (.sl 3 p3),.d (.int .i64 p4)]=>fun K=>z27z_L2 g n p1 p2 ⟨p3,p4⟩ (fun z0 z1=>K .ret (mkSt 16 2 [(0,.ptr 0 0),(4,.own 35 1)] [(0,some (.box [.d (.sl 3 z0.f_L),.d (.int .i64 z0.f_at)])),(1,some (.row 35 z1))])) (fun z0=>K (.exit 0) (mkSt 16 2 [(0,.ptr 0 0)] [(0,some (.box [.d (.sl 3 z0.f_L),.d (.int .i64 z0.f_at)]))])) | _=>fun _=>none
noncomputable def yBxy:Code:=(Tryz.f5.body).getD .skip
noncomputable def ypHy (g:C_z27z):Env A:=mkE [(16,ymwy g.z18z),(22,yomy g.z4z)] [(10,[1])] [(2,⟨[0,1,6],[],[0],[],[],[],[]⟩)] [(2,⟨[0,4],[],[0,1],[],[],[],[]⟩)] [(2,yaiy yjdy (yefy g g.N))] [] [] [] [] [0]
theorem yG2y [Fuel]:yajy (ypHy yeiy).C:=ct_of (P:=Tryz.prog) (T:=T) (.cons yw2y (.cons yBpy .nil)) (by kernel_rfl)
noncomputable def yovy:Code:=sub [1,0,1,0,0] yBxy
theorem yAoy (g:C_z27z) (n:Nat):yamy (ypHy g) g.N yovy yjdy (yefy g) n:=by intro ps; unfold yefy; split; exact .inr fun R K=>(by kernel_rfl); exact .inl fun R K=>rfl
theorem yyry [Fuel]:yagy (ypHy yeiy) NN yovy:=yaky yjdy (yefy yeiy) (by kernel_rfl) yG2y (cuts0 (fun _=>rfl) (by kernel_rfl)) (fun ps R K=>by unfold yefy; split <;> (try unfold z27z_L2) <;> rfl) (yAoy yeiy)
theorem yFcy (g:C_z27z):Same (ymvy (@z27z_ g)) (abody (ypHy g) Tryz.f5 yBxy 2 [0] [.arr 35] g.N):=by intro args; unfold ymvy; split; exact .inr fun R k=>(by kernel_rfl); exact .inl fun R k=>rfl
theorem yFGy [Fuel]:Ok 5 (ymvy (@z27z _)):=yacy std (.cons yw2y (.cons yBpy .nil)) ⟨rfl,rfl,by kernel_rfl,rfl,rfl,rfl⟩ (yFcy yeiy) (cutsL (fun _=>rfl) (.cons yyry .nil) (by kernel_rfl)) Tryz.func5 (by kernel_rfl) (by kernel_rfl)
abbrev ybpy:Type 1:=List UInt8→{R:Type}→(Bool→Option R)→Option R
structure C_kit_IsKey where
 N:Nat
 strings_IndexByte:ybUy
 strings_Trim:ydby
def ypJy (g:C_kit_IsKey) (a1:List UInt8) {R:Type} (k0:Bool→Option R):Option R :=
 (bif (!(a1 == [])) then (bif (decide ((a1.length:Int)≤40)) then (at_ a1 0 fun x2=>(g.strings_IndexByte [97,98,99,100,101,102,103,104,105,106,107,108,109,110,111,112,113,114,115,116,117,118,119,120,121,122] (x2.toNat:Int) (fun r3=>(bif (decide (r3 ≥ 0)) then (g.strings_Trim a1 [97,98,99,100,101,102,103,104,105,106,107,108,109,110,111,112,113,114,115,116,117,118,119,120,121,122,48,49,50,51,52,53,54,55,56,57,45,95] (fun r4=>k0 (r4 == []))) else k0 false)))) else k0 false) else k0 false)
noncomputable def ym3y [Fuel]:C_kit_IsKey:=⟨NN,@strings_IndexByte _,@strings_Trim _⟩
noncomputable def kit_IsKey [Fuel]:ybpy:=@ypJy ym3y
def ybay (g:ybpy):Spec A:=fun args=>match args with | [.d (.str a1)]=>fun k=>g a1 (fun z0=>k (.d (.bool z0)) [.undef]) | _=>fun _=>none
noncomputable def yHay:Code:=(Tryz.f68.body).getD .skip
noncomputable def yvNy (g:C_kit_IsKey):Env A:=mkE [(109,ycny g.strings_IndexByte),(110,yeqy g.strings_Trim)] [] [] [] [] [] [] [] [] []
theorem yvcy (g:C_kit_IsKey):Same (ybay (@ypJy g)) (abody (yvNy g) Tryz.f68 yHay 0 [] [.asis] g.N):=by intro args; unfold ybay; split; exact .inr fun R k=>(by kernel_rfl); exact .inl fun R k=>rfl
theorem yaOy [Fuel]:Ok 68 (ybay (@kit_IsKey _)):=yacy std (.cons ycoy (.cons yhLy .nil)) ⟨rfl,rfl,by kernel_rfl,rfl,rfl,rfl⟩ (yvcy ym3y) (cuts0 (fun _=>rfl) (by kernel_rfl)) Tryz.func68 (by kernel_rfl) (by kernel_rfl)
abbrev yeWy:Type 1:=Int→Int→Int→{R:Type}→(Bool→Option R)→Option R
def z50z_ (g:Nat) (a1 a2 a3:Int) {R:Type} (k0:Bool→Option R):Option R :=
 (bif (decide (a1 < a2)) then k0 true else k0 (decide (a1 > a3)))
noncomputable def z50z [Fuel]:yeWy:=@z50z_ NN
def ycIy (g:yeWy):Spec A:=fun args=>match args with | [.d (.int .i64 a1),.d (.int .i64 a2),.d (.int .i64 a3)]=>fun k=>g a1 a2 a3 (fun z0=>k (.d (.bool z0)) [.undef,.undef,.undef]) | _=>fun _=>none
noncomputable def yHfy:Code:=(Tryz.f69.body).getD .skip
noncomputable def yIsy (g:Nat):Env A:=mkE [] [] [] [] [] [] [] [] [] []
theorem yGFy (g:Nat):Same (ycIy (@z50z_ g)) (abody (yIsy g) Tryz.f69 yHfy 0 [] [.asis] g):=by intro args; unfold ycIy; split; exact .inr fun R k=>(by kernel_rfl); exact .inl fun R k=>rfl
theorem yd1y [Fuel]:Ok 69 (ycIy (@z50z _)):=yacy std .nil ⟨rfl,rfl,by kernel_rfl,rfl,rfl,rfl⟩ (yGFy NN) (cuts0 (fun _=>rfl) (by kernel_rfl)) Tryz.func69 (by kernel_rfl) (by kernel_rfl)
abbrev yioy:Type 1:=Int→{R:Type}→(Bool→Option R)→Option R
structure C_z58z where
 N:Nat
 z50z:yeWy
def z58z_ (g:C_z58z) (a1:Int) {R:Type} (k0:Bool→Option R):Option R :=
 (g.z50z a1 0 345686399999 (fun r2=>k0 (!r2)))
noncomputable def yuhy [Fuel]:C_z58z:=⟨NN,@z50z _⟩
noncomputable def z58z [Fuel]:yioy:=@z58z_ yuhy
def yfvy (g:yioy):Spec A:=fun args=>match args with | [.d (.int .i64 a1)]=>fun k=>g a1 (fun z0=>k (.d (.bool z0)) [.undef]) | _=>fun _=>none
noncomputable def yFmy:Code:=(Tryz.f70.body).getD .skip
noncomputable def yJjy (g:C_z58z):Env A:=mkE [(69,ycIy g.z50z)] [] [] [] [] [] [] [] [] []
theorem yHwy (g:C_z58z):Same (yfvy (@z58z_ g)) (abody (yJjy g) Tryz.f70 yFmy 0 [] [.asis] g.N):=by intro args; unfold yfvy; split; exact .inr fun R k=>(by kernel_rfl); exact .inl fun R k=>rfl
theorem ymey [Fuel]:Ok 70 (yfvy (@z58z _)):=yacy std (.cons yd1y .nil) ⟨rfl,rfl,by kernel_rfl,rfl,rfl,rfl⟩ (yHwy yuhy) (cuts0 (fun _=>rfl) (by kernel_rfl)) Tryz.func70 (by kernel_rfl) (by kernel_rfl)
abbrev ycZy:Type 1:=Int→{R:Type}→(Bool→Option R)→Option R
structure C_kit_IsMode where
 N:Nat
 z50z:yeWy
def yh7y (g:C_kit_IsMode) (a1:Int) {R:Type} (k0:Bool→Option R):Option R :=
 (g.z50z a1 1 3 (fun r2=>k0 (!r2)))
noncomputable def yg0y [Fuel]:C_kit_IsMode:=⟨NN,@z50z _⟩
noncomputable def kit_IsMode [Fuel]:ycZy:=@yh7y yg0y
def ybXy (g:ycZy):Spec A:=fun args=>match args with | [.d (.int .i64 a1)]=>fun k=>g a1 (fun z0=>k (.d (.bool z0)) [.undef]) | _=>fun _=>none
noncomputable def yEBy:Code:=(Tryz.f76.body).getD .skip
noncomputable def ysLy (g:C_kit_IsMode):Env A:=mkE [(69,ycIy g.z50z)] [] [] [] [] [] [] [] [] []
theorem yrWy (g:C_kit_IsMode):Same (ybXy (@yh7y g)) (abody (ysLy g) Tryz.f76 yEBy 0 [] [.asis] g.N):=by intro args; unfold ybXy; split; exact .inr fun R k=>(by kernel_rfl); exact .inl fun R k=>rfl
theorem ydJy [Fuel]:Ok 76 (ybXy (@kit_IsMode _)):=yacy std (.cons yd1y .nil) ⟨rfl,rfl,by kernel_rfl,rfl,rfl,rfl⟩ (yrWy yg0y) (cuts0 (fun _=>rfl) (by kernel_rfl)) Tryz.func76 (by kernel_rfl) (by kernel_rfl)
abbrev yuIy:Type 1:=Int→{R:Type}→(Bool→Option R)→Option R
def z88z_ (g:Nat) (a1:Int) {R:Type} (k0:Bool→Option R):Option R :=
 (bif (decide (a1 ≥ 97)) then k0 (decide (a1≤122)) else k0 false)
noncomputable def z88z [Fuel]:yuIy:=@z88z_ NN
def ymGy (g:yuIy):Spec A:=fun args=>match args with | [.d (.int .u8 a1)]=>fun k=>g a1 (fun z0=>k (.d (.bool z0)) [.undef]) | _=>fun _=>none
noncomputable def yCDy:Code:=(Tryz.f236.body).getD .skip
noncomputable def yHYy (g:Nat):Env A:=mkE [] [] [] [] [] [] [] [] [] []
theorem yHey (g:Nat):Same (ymGy (@z88z_ g)) (abody (yHYy g) Tryz.f236 yCDy 0 [] [.asis] g):=by intro args; unfold ymGy; split; exact .inr fun R k=>(by kernel_rfl); exact .inl fun R k=>rfl
theorem ywIy [Fuel]:Ok 236 (ymGy (@z88z _)):=yacy std .nil ⟨rfl,rfl,by kernel_rfl,rfl,rfl,rfl⟩ (yHey NN) (cuts0 (fun _=>rfl) (by kernel_rfl)) Tryz.func236 (by kernel_rfl) (by kernel_rfl)
abbrev yoQy:Type 1:=Int→{R:Type}→(Bool→Option R)→Option R
def z85z_ (g:Nat) (a1:Int) {R:Type} (k0:Bool→Option R):Option R :=
 (bif (decide (a1 ≥ 48)) then k0 (decide (a1≤57)) else k0 false)
noncomputable def z85z [Fuel]:yoQy:=@z85z_ NN
def yi0y (g:yoQy):Spec A:=fun args=>match args with | [.d (.int .u8 a1)]=>fun k=>g a1 (fun z0=>k (.d (.bool z0)) [.undef]) | _=>fun _=>none
noncomputable def yCMy:Code:=(Tryz.f210.body).getD .skip
noncomputable def yIMy (g:Nat):Env A:=mkE [] [] [] [] [] [] [] [] [] []
theorem yGky (g:Nat):Same (yi0y (@z85z_ g)) (abody (yIMy g) Tryz.f210 yCMy 0 [] [.asis] g):=by intro args; unfold yi0y; split; exact .inr fun R k=>(by kernel_rfl); exact .inl fun R k=>rfl
theorem yqIy [Fuel]:Ok 210 (yi0y (@z85z _)):=yacy std .nil ⟨rfl,rfl,by kernel_rfl,rfl,rfl,rfl⟩ (yGky NN) (cuts0 (fun _=>rfl) (by kernel_rfl)) Tryz.func210 (by kernel_rfl) (by kernel_rfl)
abbrev yody:Type 1:=List UInt8→{R:Type}→(Int→Bool→Option R)→Option R
structure C_z48z where
 N:Nat
 z85z:yoQy
 z88z:yuIy
def z48z_L2 (g:C_z48z):Nat→List UInt8→Int→Int→Int→{R:Type}→(Int→Bool→Option R)→(Int→Option R)→Option R
 | 0,_,_,_,_,_,_,_=>none
 | n + 1,v2,v3,v4,v5,_,e0,e1=>(bif (decide (v5 < v4)) then (get_ v2 v5 fun x10=>(g.z88z (x10.toNat:Int) (fun r11=>(bif r11 then z48z_L2 g n v2 (w64 (v3 + 1)) v4 (w64 (v5 + 1)) e0 e1 else (get_ v2 v5 fun x12=>(g.z85z (x12.toNat:Int) (fun r13=>(bif (!r13) then e0 0 false else z48z_L2 g n v2 v3 v4 (w64 (v5 + 1)) e0 e1)))))))) else e1 v3)
def z48z_ (g:C_z48z) (a1:List UInt8) {R:Type} (k0:Int→Bool→Option R):Option R :=
 (z48z_L2 g g.N a1 0 (a1.length:Int) 0 (fun e14 e15=>k0 e14 e15) (fun e16=>k0 e16 true))
noncomputable def yi5y [Fuel]:C_z48z:=⟨NN,@z85z _,@z88z _⟩
noncomputable def z48z [Fuel]:yody:=@z48z_ yi5y
def yiXy (g:yody):Spec A:=fun args=>match args with | [.d (.str a1)]=>fun k=>g a1 (fun z0 z1=>k (.tup [.d (.int .i64 z0),.d (.bool z1)]) [.undef]) | _=>fun _=>none
def yjry:SSt:=mkSh 25 0 [(0,.str),(2,.int .i64),(6,.int .i64),(7,.int .i64)] []
def yfay (g:C_z48z) (n:Nat):LPT A:=fun ps=>match ps with | [.d (.str p1),.d (.int .i64 p2),.d (.int .i64 p3),.d (.int .i64 p4)]=>fun K=>z48z_L2 g n p1 p2 p3 p4 (fun z0 z1=>K .ret (mkSt 25 0 [(2,.d (.int .i64 z0)),(3,.d (.bool z1))] [])) (fun z0=>K (.exit 0) (mkSt 25 0 [(2,.d (.int .i64 z0))] [])) | _=>fun _=>none
noncomputable def ys4y:Code:=(Tryz.f209.body).getD .skip
noncomputable def ypQy (g:C_z48z):Env A:=mkE [(210,yi0y g.z85z),(236,ymGy g.z88z)] [] [(2,⟨[0,2,6,7],[],[],[],[],[],[]⟩)] [(2,⟨[2,3],[],[],[],[],[],[]⟩)] [(2,yaiy yjry (yfay g g.N))] [] [] [] [] []
theorem yDXy [Fuel]:yajy (ypQy yi5y).C:=ct_of (P:=Tryz.prog) (T:=T) (.cons yqIy (.cons ywIy .nil)) (by kernel_rfl)
noncomputable def ypIy:Code:=sub [1,0,1,0,0] ys4y
theorem yBOy (g:C_z48z) (n:Nat):yamy (ypQy g) g.N ypIy yjry (yfay g) n:=by intro ps; unfold yfay; split; exact .inr fun R K=>(by kernel_rfl); exact .inl fun R K=>rfl
theorem yyIy [Fuel]:yagy (ypQy yi5y) NN ypIy:=yaky yjry (yfay yi5y) (by kernel_rfl) yDXy (cuts0 (fun _=>rfl) (by kernel_rfl)) (fun ps R K=>by unfold yfay; split <;> (try unfold z48z_L2) <;> rfl) (yBOy yi5y)
theorem yGZy (g:C_z48z):Same (yiXy (@z48z_ g)) (abody (ypQy g) Tryz.f209 ys4y 0 [] [.asis,.asis] g.N):=by intro args; unfold yiXy; split; exact .inr fun R k=>(by kernel_rfl); exact .inl fun R k=>rfl
theorem yxLy [Fuel]:Ok 209 (yiXy (@z48z _)):=yacy std (.cons yqIy (.cons ywIy .nil)) ⟨rfl,rfl,by kernel_rfl,rfl,rfl,rfl⟩ (yGZy yi5y) (cutsL (fun _=>rfl) (.cons yyIy .nil) (by kernel_rfl)) Tryz.func209 (by kernel_rfl) (by kernel_rfl)
abbrev yhay:Type 1:=List UInt8→{R:Type}→(Int→Bool→Option R)→Option R
structure C_call_split where
 N:Nat
 z48z:yody
 z8z:T_z8z
def ym6y (g:C_call_split) (a1:List UInt8) {R:Type} (k0:Int→Bool→Option R):Option R :=
 (g.z48z a1 (fun r2 r3=>(bif (!r3) then k0 0 false else (bif (decide ((a1.length:Int) > 10)) then k0 0 false else (g.z8z a1 [48,49,50,51,52,53,54,55,56,57] (fun r4=>(bif (decide (r4 < 1)) then k0 0 false else (bif (decide (r4 > 3)) then k0 0 false else (bif (decide ((w64 ((w64 ((a1.length:Int) - r4)) - 1)) < 1)) then k0 0 false else (bif (decide ((w64 ((w64 ((a1.length:Int) - r4)) - 1)) > 4)) then k0 0 false else (bif (decide (0≤r4) && decide (r4≤(a1.length:Int))) then (g.z48z (a1.take (r4:Int).toNat) (fun r5 r6=>k0 r4 (decide (r5 > 0)))) else none)))))))))))
noncomputable def ylDy [Fuel]:C_call_split:=⟨NN,@z48z _,@z8z _⟩
noncomputable def call_split [Fuel]:yhay:=@ym6y ylDy
def ydLy (g:yhay):Spec A:=fun args=>match args with | [.d (.str a1)]=>fun k=>g a1 (fun z0 z1=>k (.tup [.d (.int .i64 z0),.d (.bool z1)]) [.undef]) | _=>fun _=>none
noncomputable def yCjy:Code:=(Tryz.f207.body).getD .skip
noncomputable def yuuy (g:C_call_split):Env A:=mkE [(209,yiXy g.z48z),(222,ylay g.z8z)] [] [] [] [] [] [] [] [] []
theorem yrNy (g:C_call_split):Same (ydLy (@ym6y g)) (abody (yuuy g) Tryz.f207 yCjy 0 [] [.asis,.asis] g.N):=by intro args; unfold ydLy; split; exact .inr fun R k=>(by kernel_rfl); exact .inl fun R k=>rfl
theorem yrMy [Fuel]:Ok 207 (ydLy (@call_split _)):=yacy std (.cons yxLy (.cons yAzy .nil)) ⟨rfl,rfl,by kernel_rfl,rfl,rfl,rfl⟩ (yrNy ylDy) (cuts0 (fun _=>rfl) (by kernel_rfl)) Tryz.func207 (by kernel_rfl) (by kernel_rfl)
abbrev yhky:Type 1:=List UInt8→{R:Type}→(G_Parts→Bool→Option R)→Option R
structure C_call_based where
 N:Nat
 call_split:yhay
def ymXy (g:C_call_based) (a1:List UInt8) {R:Type} (k0:G_Parts→Bool→Option R):Option R :=
 (g.call_split a1 (fun r2 r3=>(bif (!r3) then k0 (⟨[],[],[],0,[]⟩:G_Parts) false else (bif (decide (0≤(w64 (r2 + 1))) && decide ((w64 (r2 + 1))≤(a1.length:Int))) then (bif (decide (0≤(w64 (r2 + 1))) && decide ((w64 (r2 + 1))≤(a1.length:Int))) then k0 (⟨a1,(a1.take ((w64 (r2 + 1)):Int).toNat),(a1.drop ((w64 (r2 + 1)):Int).toNat),0,[]⟩:G_Parts) true else none) else none))))
noncomputable def ylfy [Fuel]:C_call_based:=⟨NN,@call_split _⟩
noncomputable def call_based [Fuel]:yhky:=@ymXy ylfy
def ydOy (g:yhky):Spec A:=fun args=>match args with | [.d (.str a1)]=>fun k=>g a1 (fun z0 z1=>k (.tup [.agg [.d (.str z0.f_Base),.d (.str z0.f_Prefix),.d (.str z0.f_Suffix),.d (.int .i64 z0.f_Kind),.d (.str z0.f_Added)],.d (.bool z1)]) [.undef]) | _=>fun _=>none
noncomputable def yCFy:Code:=(Tryz.f174.body).getD .skip
noncomputable def yt6y (g:C_call_based):Env A:=mkE [(207,ydLy g.call_split)] [(2,[0])] [] [] [] [] [] [] [] []
theorem yr8y (g:C_call_based):Same (ydOy (@ymXy g)) (abody (yt6y g) Tryz.f174 yCFy 1 [] [.asis,.asis] g.N):=by intro args; unfold ydOy; split; exact .inr fun R k=>(by kernel_rfl); exact .inl fun R k=>rfl
theorem yrHy [Fuel]:Ok 174 (ydOy (@call_based _)):=yacy std (.cons yrMy .nil) ⟨rfl,rfl,by kernel_rfl,rfl,rfl,rfl⟩ (yr8y ylfy) (cuts0 (fun _=>rfl) (by kernel_rfl)) Tryz.func174 (by kernel_rfl) (by kernel_rfl)
abbrev ypDy:Type 1:=List UInt8→{R:Type}→(Bool→Option R)→Option R
structure C_z79z where
 N:Nat
 z48z:yody
def z79z_ (g:C_z79z) (a1:List UInt8) {R:Type} (k0:Bool→Option R):Option R :=
 (g.z48z a1 (fun r2 r3=>(bif r3 then (bif (decide (r2 > 0)) then k0 (decide ((a1.length:Int)≤4)) else k0 false) else k0 false)))
noncomputable def yBBy [Fuel]:C_z79z:=⟨NN,@z48z _⟩
noncomputable def z79z [Fuel]:ypDy:=@z79z_ yBBy
def yijy (g:ypDy):Spec A:=fun args=>match args with | [.d (.str a1)]=>fun k=>g a1 (fun z0=>k (.d (.bool z0)) [.undef]) | _=>fun _=>none
noncomputable def yC8y:Code:=(Tryz.f176.body).getD .skip
noncomputable def yIPy (g:C_z79z):Env A:=mkE [(209,yiXy g.z48z)] [] [] [] [] [] [] [] [] []
theorem yFty (g:C_z79z):Same (yijy (@z79z_ g)) (abody (yIPy g) Tryz.f176 yC8y 0 [] [.asis] g.N):=by intro args; unfold yijy; split; exact .inr fun R k=>(by kernel_rfl); exact .inl fun R k=>rfl
theorem ywXy [Fuel]:Ok 176 (yijy (@z79z _)):=yacy std (.cons yxLy .nil) ⟨rfl,rfl,by kernel_rfl,rfl,rfl,rfl⟩ (yFty yBBy) (cuts0 (fun _=>rfl) (by kernel_rfl)) Tryz.func176 (by kernel_rfl) (by kernel_rfl)
abbrev yhOy:Type 1:=List UInt8→{R:Type}→(Int→List UInt8→Bool→Option R)→Option R
structure C_call_tail where
 N:Nat
 z79z:ypDy
 z85z:yoQy
def ypBy (g:C_call_tail) (a1:List UInt8) {R:Type} (k0:Int→List UInt8→Bool→Option R):Option R :=
 (bif (a1 == [112]) then k0 3 [] true else (bif (a1 == [109]) then k0 4 [] true else (bif (a1 == [109,109]) then k0 5 [] true else (bif (a1 == [97,109]) then k0 6 [] true else (bif ((a1.length:Int) == 1) then (at_ a1 0 fun x2=>(g.z85z (x2.toNat:Int) (fun r3=>(bif r3 then k0 2 a1 true else (g.z79z a1 (fun r4=>k0 1 a1 r4)))))) else (g.z79z a1 (fun r5=>k0 1 a1 r5)))))))
noncomputable def yniy [Fuel]:C_call_tail:=⟨NN,@z79z _,@z85z _⟩
noncomputable def call_tail [Fuel]:yhOy:=@ypBy yniy
def yery (g:yhOy):Spec A:=fun args=>match args with | [.d (.str a1)]=>fun k=>g a1 (fun z0 z1 z2=>k (.tup [.d (.int .i64 z0),.d (.str z1),.d (.bool z2)]) [.undef]) | _=>fun _=>none
noncomputable def yCgy:Code:=(Tryz.f177.body).getD .skip
noncomputable def yv2y (g:C_call_tail):Env A:=mkE [(176,yijy g.z79z),(210,yi0y g.z85z)] [] [] [] [] [] [] [] [] []
theorem yumy (g:C_call_tail):Same (yery (@ypBy g)) (abody (yv2y g) Tryz.f177 yCgy 0 [] [.asis,.asis,.asis] g.N):=by intro args; unfold yery; split; exact .inr fun R k=>(by kernel_rfl); exact .inl fun R k=>rfl
theorem yvvy [Fuel]:Ok 177 (yery (@call_tail _)):=yacy std (.cons ywXy (.cons yqIy .nil)) ⟨rfl,rfl,by kernel_rfl,rfl,rfl,rfl⟩ (yumy yniy) (cuts0 (fun _=>rfl) (by kernel_rfl)) Tryz.func177 (by kernel_rfl) (by kernel_rfl)
end Go.Am
