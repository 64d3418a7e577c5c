/- The functions of the program as Lean functions, each shown to be what the code computes, part 4. No condition: lemmas for the claim. -/
import Derived.Test.YtfmhkakoakcpgaaGreatDoorF0
import Derived.Test.YtfmhkakoakcpgaaGreatDoorFSh
import Derived.Test.YtfmhkakoakcpgaaGreatDoorF1
import Derived.Test.YtfmhkakoakcpgaaGreatDoorF2
import Derived.Test.YtfmhkakoakcpgaaGreatDoorF3
set_option linter.unusedVariables false
set_option maxRecDepth 100000
namespace Go.Am
open Go Go.Proofs
abbrev ywgy:Type 1:=G_Deed→G_Deed→{R:Type}→(Bool→G_Deed→Option R)→Option R
structure C_z10z where
 N:Nat
 Q_sameNo:ykey
def z10z_ (g:C_z10z) (a1 a2:G_Deed) {R:Type} (k0:Bool→G_Deed→Option R):Option R :=
 (g.Q_sameNo a1 a2 (fun r3=>k0 r3 a2))
noncomputable def yvXy [Fuel]:C_z10z:=⟨NN,@Q_sameNo _⟩
noncomputable def z10z [Fuel]:ywgy:=@z10z_ yvXy
def ynJy (g:ywgy):Spec A:=fun args=>match args with | [.agg [.d (.str a1),.d (.int .i64 a2),.d (.int .i64 a3),.d (.int .i64 a4),.d (.int .i64 a5),.d (.int .i64 a6),.d (.str a7),.d (.str a8),.d (.int .i64 a9),.d (.int .i64 a10),.d (.str a11),.d (.str a12),.d (.str a13),.d (.str a14),.d (.int .i64 a15)],.box [.d (.str a16),.d (.int .i64 a17),.d (.int .i64 a18),.d (.int .i64 a19),.d (.int .i64 a20),.d (.int .i64 a21),.d (.str a22),.d (.str a23),.d (.int .i64 a24),.d (.int .i64 a25),.d (.str a26),.d (.str a27),.d (.str a28),.d (.str a29),.d (.int .i64 a30)]]=>fun k=>g ⟨a1,a2,a3,a4,⟨a5,a6,a7,a8,a9,a10,a11,a12⟩,a13,a14,a15⟩ ⟨a16,a17,a18,a19,⟨a20,a21,a22,a23,a24,a25,a26,a27⟩,a28,a29,a30⟩ (fun z0 z1=>k (.d (.bool z0)) [.undef,.box [.d (.str z1.f_Site),.d (.int .i64 z1.f_No),.d (.int .i64 z1.f_At),.d (.int .i64 z1.f_Kind),.d (.int .i64 z1.f_Contact.f_At),.d (.int .i64 z1.f_Contact.f_Mode),.d (.str z1.f_Contact.f_Band),.d (.str z1.f_Contact.f_Call),.d (.int .i64 z1.f_Contact.f_Sent),.d (.int .i64 z1.f_Contact.f_Heard),.d (.str z1.f_Contact.f_Gave),.d (.str z1.f_Contact.f_Got),.d (.str z1.f_Band),.d (.str z1.f_Of),.d (.int .i64 z1.f_Other)]]) | _=>fun _=>none
noncomputable def yHRy:Code:=(Tryz.f49.body).getD .skip
noncomputable def yJGy (g:C_z10z):Env A:=mkE [(50,ygvy g.Q_sameNo)] [(2,[1])] [] [] [] [] [] [] [] [1]
theorem yGmy (g:C_z10z):Same (ynJy (@z10z_ g)) (abody (yJGy g) Tryz.f49 yHRy 2 [0] [.asis] g.N):=by intro args; unfold ynJy; split; exact .inr fun R k=>(by kernel_rfl); exact .inl fun R k=>rfl
theorem yziy [Fuel]:Ok 49 (ynJy (@z10z _)):=yacy std (.cons yxjy .nil) ⟨rfl,rfl,by kernel_rfl,rfl,rfl,rfl⟩ (yGmy yvXy) (cuts0 (fun _=>rfl) (by kernel_rfl)) Tryz.func49 (by kernel_rfl) (by kernel_rfl)
abbrev T_z5z:Type 1:=List G_Deed→G_Deed→{R:Type}→(Int→G_Deed→Option R)→Option R
structure C_z5z where
 N:Nat
 z10z:ywgy
def z5z_L2 (g:C_z5z):Nat→List G_Deed→Int→Int→G_Deed→{R:Type}→(Int→G_Deed→Option R)→(G_Deed→Option R)→Option R
 | 0,_,_,_,_,_,_,_=>none
 | n + 1,v3,v4,v5,v6,_,e0,e1=>(bif (decide (v5 < v4)) then (get_ v3 v5 fun x10=>(g.z10z x10 v6 (fun r11 r12=>(bif r11 then e0 v5 r12 else z5z_L2 g n v3 v4 (w64 (v5 + 1)) r12 e0 e1)))) else e1 v6)
def z5z_ (g:C_z5z) (a1:List G_Deed) (a2:G_Deed) {R:Type} (k0:Int→G_Deed→Option R):Option R :=
 (z5z_L2 g g.N a1 (a1.length:Int) 0 a2 (fun e13 e14=>k0 e13 e14) (fun e15=>k0 (-1) e15))
noncomputable def I_z5z [Fuel]:C_z5z:=⟨NN,@z10z _⟩
noncomputable def z5z [Fuel]:T_z5z:=@z5z_ I_z5z
def yqAy (g:T_z5z):Spec A:=fun args=>match args with | [.d (.sl 41 a1),.fn 49 [.box [.d (.str a2),.d (.int .i64 a3),.d (.int .i64 a4),.d (.int .i64 a5),.d (.int .i64 a6),.d (.int .i64 a7),.d (.str a8),.d (.str a9),.d (.int .i64 a10),.d (.int .i64 a11),.d (.str a12),.d (.str a13),.d (.str a14),.d (.str a15),.d (.int .i64 a16)]]]=>fun k=>g a1 ⟨a2,a3,a4,a5,⟨a6,a7,a8,a9,a10,a11,a12,a13⟩,a14,a15,a16⟩ (fun z0 z1=>k (.d (.int .i64 z0)) [.undef,.fn 49 [.box [.d (.str z1.f_Site),.d (.int .i64 z1.f_No),.d (.int .i64 z1.f_At),.d (.int .i64 z1.f_Kind),.d (.int .i64 z1.f_Contact.f_At),.d (.int .i64 z1.f_Contact.f_Mode),.d (.str z1.f_Contact.f_Band),.d (.str z1.f_Contact.f_Call),.d (.int .i64 z1.f_Contact.f_Sent),.d (.int .i64 z1.f_Contact.f_Heard),.d (.str z1.f_Contact.f_Gave),.d (.str z1.f_Contact.f_Got),.d (.str z1.f_Band),.d (.str z1.f_Of),.d (.int .i64 z1.f_Other)]]]) | _=>fun _=>none
def ymgy:SSt:=mkSh 19 1 [(0,.sl 41),(1,.fn 49 [.ptr 0 0]),(7,.int .i64),(8,.int .i64)] [(0,.box [.str,.int .i64,.int .i64,.int .i64,.int .i64,.int .i64,.str,.str,.int .i64,.int .i64,.str,.str,.str,.str,.int .i64])]
def ygBy (g:C_z5z) (n:Nat):LPT A:=fun ps=>match ps with | [.d (.sl 41 p1),.d (.int .i64 p2),.d (.int .i64 p3),.d (.str p4),.d (.int .i64 p5),.d (.int .i64 p6),.d (.int .i64 p7),.d (.int .i64 p8),.d (.int .i64 p9),.d (.str p10),.d (.str p11),.d (.int .i64 p12),.d (.int .i64 p13),.d (.str p14),.d (.str p15),.d (.str p16),.d (.str p17),.d (.int .i64 p18)]=>fun K=>z5z_L2 g n p1 p2 p3 ⟨p4,p5,p6,p7,⟨p8,p9,p10,p11,p12,p13,p14,p15⟩,p16,p17,p18⟩ (fun z0 z1=>K .ret (mkSt 19 1 [(1,.fn 49 [.ptr 0 0]),(4,.d (.int .i64 z0))] [(0,some (.box [.d (.str z1.f_Site),.d (.int .i64 z1.f_No),.d (.int .i64 z1.f_At),.d (.int .i64 z1.f_Kind),.d (.int .i64 z1.f_Contact.f_At),.d (.int .i64 z1.f_Contact.f_Mode),.d (.str z1.f_Contact.f_Band),.d (.str z1.f_Contact.f_Call),.d (.int .i64 z1.f_Contact.f_Sent),.d (.int .i64 z1.f_Contact.f_Heard),.d (.str z1.f_Contact.f_Gave),.d (.str z1.f_Contact.f_Got),.d (.str z1.f_Band),.d (.str z1.f_Of),.d (.int .i64 z1.f_Other)]))])) (fun z0=>K (.exit 0) (mkSt 19 1 [(1,.fn 49 [.ptr 0 0])] [(0,some (.box [.d (.str z0.f_Site),.d (.int .i64 z0.f_No),.d (.int .i64 z0.f_At),.d (.int .i64 z0.f_Kind),.d (.int .i64 z0.f_Contact.f_At),.d (.int .i64 z0.f_Contact.f_Mode),.d (.str z0.f_Contact.f_Band),.d (.str z0.f_Contact.f_Call),.d (.int .i64 z0.f_Contact.f_Sent),.d (.int .i64 z0.f_Contact.f_Heard),.d (.str z0.f_Contact.f_Gave),.d (.str z0.f_Contact.f_Got),.d (.str z0.f_Band),.d (.str z0.f_Of),.d (.int .i64 z0.f_Other)]))])) | _=>fun _=>none
noncomputable def yyCy:Code:=(Tryz.f86.body).getD .skip
noncomputable def E_z5z (g:C_z5z):Env A:=mkE [(49,ynJy g.z10z)] [] [(2,⟨[0,1,7,8],[],[0],[],[],[],[]⟩)] [(2,⟨[1,4],[],[0],[],[],[],[]⟩)] [(2,yaiy ymgy (ygBy g g.N))] [] [] [] [] [1]
theorem yKAy [Fuel]:yamy (E_z5z I_z5z).C:=ct_of (P:=Tryz.prog) (T:=T) (.cons yziy .nil) (by kernel_rfl)
noncomputable def ysYy:Code:=sub [1,0,1,0,0] yyCy
theorem yDPy (g:C_z5z) (n:Nat):yaoy (E_z5z g) g.N ysYy ymgy (ygBy g) n:=by intro ps; unfold ygBy; split; exact .inr fun R K=>(by kernel_rfl); exact .inl fun R K=>rfl
theorem yBEy [Fuel]:yahy (E_z5z I_z5z) NN ysYy:=yaky ymgy (ygBy I_z5z) (by kernel_rfl) yKAy (cuts0 (fun _=>rfl) (by kernel_rfl)) (fun ps R K=>by unfold ygBy; split <;> (try unfold z5z_L2) <;> rfl) (yDPy I_z5z)
theorem yKyy (g:C_z5z):Same (yqAy (@z5z_ g)) (abody (E_z5z g) Tryz.f86 yyCy 1 [0] [.asis] g.N):=by intro args; unfold yqAy; split; exact .inr fun R k=>(by kernel_rfl); exact .inl fun R k=>rfl
theorem yKpy [Fuel]:Ok 86 (yqAy (@z5z _)):=yacy std (.cons yziy .nil) ⟨rfl,rfl,by kernel_rfl,rfl,rfl,rfl⟩ (yKyy I_z5z) (cutsL (fun _=>rfl) (.cons yBEy .nil) (by kernel_rfl)) Tryz.func86 (by kernel_rfl) (by kernel_rfl)
abbrev yuNy:Type 1:=List G_Deed→G_Deed→{R:Type}→(Bool→G_Deed→Option R)→Option R
structure C_z21z where
 N:Nat
 z5z:T_z5z
def z21z_ (g:C_z21z) (a1:List G_Deed) (a2:G_Deed) {R:Type} (k0:Bool→G_Deed→Option R):Option R :=
 (g.z5z a1 a2 (fun r3 r4=>k0 (decide (r3 ≥ 0)) r4))
noncomputable def ytAy [Fuel]:C_z21z:=⟨NN,@z5z _⟩
noncomputable def z21z [Fuel]:yuNy:=@z21z_ ytAy
def ynpy (g:yuNy):Spec A:=fun args=>match args with | [.d (.sl 41 a1),.fn 49 [.box [.d (.str a2),.d (.int .i64 a3),.d (.int .i64 a4),.d (.int .i64 a5),.d (.int .i64 a6),.d (.int .i64 a7),.d (.str a8),.d (.str a9),.d (.int .i64 a10),.d (.int .i64 a11),.d (.str a12),.d (.str a13),.d (.str a14),.d (.str a15),.d (.int .i64 a16)]]]=>fun k=>g a1 ⟨a2,a3,a4,a5,⟨a6,a7,a8,a9,a10,a11,a12,a13⟩,a14,a15,a16⟩ (fun z0 z1=>k (.d (.bool z0)) [.undef,.fn 49 [.box [.d (.str z1.f_Site),.d (.int .i64 z1.f_No),.d (.int .i64 z1.f_At),.d (.int .i64 z1.f_Kind),.d (.int .i64 z1.f_Contact.f_At),.d (.int .i64 z1.f_Contact.f_Mode),.d (.str z1.f_Contact.f_Band),.d (.str z1.f_Contact.f_Call),.d (.int .i64 z1.f_Contact.f_Sent),.d (.int .i64 z1.f_Contact.f_Heard),.d (.str z1.f_Contact.f_Gave),.d (.str z1.f_Contact.f_Got),.d (.str z1.f_Band),.d (.str z1.f_Of),.d (.int .i64 z1.f_Other)]]]) | _=>fun _=>none
noncomputable def yFBy:Code:=(Tryz.f48.body).getD .skip
noncomputable def yJUy (g:C_z21z):Env A:=mkE [(86,yqAy g.z5z)] [] [] [] [] [] [] [] [(86,0)] [1]
theorem yIRy (g:C_z21z):Same (ynpy (@z21z_ g)) (abody (yJUy g) Tryz.f48 yFBy 1 [0] [.asis] g.N):=by intro args; unfold ynpy; split; exact .inr fun R k=>(by kernel_rfl); exact .inl fun R k=>rfl
theorem yy5y [Fuel]:Ok 48 (ynpy (@z21z _)):=yacy std (.cons yKpy .nil) ⟨rfl,rfl,by kernel_rfl,rfl,rfl,rfl⟩ (yIRy ytAy) (cuts0 (fun _=>rfl) (by kernel_rfl)) Tryz.func48 (by kernel_rfl) (by kernel_rfl)
abbrev T_z4z:Type 1:=List G_Deed→{R:Type}→(Int→Option R)→Option R
structure C_z4z where
 N:Nat
 z2z:T_z2z
 z73z:ywQy
 z21z:yuNy
def z4z_L4 (g:C_z4z):Nat→List G_Deed→List G_Deed→Int→Int→{R:Type}→(List G_Deed→Int→Option R)→(List G_Deed→Option R)→Option R
 | 0,_,_,_,_,_,_,_=>none
 | n + 1,v2,v3,v4,v5,_,e0,e1=>(bif (decide (v5 < v4)) then (get_ v3 v5 fun x10=>(g.z73z x10 (fun r11=>(bif (r11 != 0) then e0 v2 r11 else (bif (decide (v5 > 0)) then (get_ v2 (w64 (v5 - 1)) fun x12=>(g.z2z x12 x10 (fun r13=>(bif (decide (r13 ≥ 0)) then e0 v2 7 else z4z_L4 g n v2 v3 v4 (w64 (v5 + 1)) e0 e1)))) else z4z_L4 g n v2 v3 v4 (w64 (v5 + 1)) e0 e1))))) else e1 v2)
def z4z_L13 (g:C_z4z):Nat→List G_Deed→List G_Deed→Int→Int→{R:Type}→(Int→Option R)→Option R→Option R
 | 0,_,_,_,_,_,_,_=>none
 | n + 1,v17,v18,v19,v20,_,e0,e1=>(bif (decide (v20 < v19)) then (get_ v18 v20 fun x24=>(bif (decide (0≤v20) && decide (v20≤(v17.length:Int))) then (g.z21z (v17.take (v20:Int).toNat) x24 (fun r25 r26=>(bif r25 then e0 6 else z4z_L13 g n v17 v18 v19 (w64 (v20 + 1)) e0 e1))) else none)) else e1)
def z4z_ (g:C_z4z) (a1:List G_Deed) {R:Type} (k0:Int→Option R):Option R :=
 (bif (decide ((a1.length:Int) > 2000)) then k0 2 else (z4z_L4 g g.N a1 a1 (a1.length:Int) 0 (fun e14 e15=>k0 e15) (fun e16=>(z4z_L13 g g.N e16 e16 (e16.length:Int) 0 (fun e27=>k0 e27) (k0 0)))))
noncomputable def I_z4z [Fuel]:C_z4z:=⟨NN,@z2z _,@z73z _,@z21z _⟩
noncomputable def z4z [Fuel]:T_z4z:=@z4z_ I_z4z
def yq5y (g:T_z4z):Spec A:=fun args=>match args with | [.d (.sl 41 a1)]=>fun k=>g a1 (fun z0=>k (.d (.int .i64 z0)) [.undef]) | _=>fun _=>none
def ymGy:SSt:=mkSh 49 2 [(0,.sl 41),(11,.sl 41),(12,.int .i64),(13,.int .i64)] []
def ygHy (g:C_z4z) (n:Nat):LPT A:=fun ps=>match ps with | [.d (.sl 41 p1),.d (.sl 41 p2),.d (.int .i64 p3),.d (.int .i64 p4)]=>fun K=>z4z_L4 g n p1 p2 p3 p4 (fun z0 z1=>K .ret (mkSt 49 2 [(0,.d (.sl 41 z0)),(2,.d (.int .i64 z1))] [])) (fun z0=>K (.exit 0) (mkSt 49 2 [(0,.d (.sl 41 z0))] [])) | _=>fun _=>none
def ylby:SSt:=mkSh 49 2 [(0,.sl 41),(36,.sl 41),(37,.int .i64),(38,.int .i64)] []
def yfNy (g:C_z4z) (n:Nat):LPT A:=fun ps=>match ps with | [.d (.sl 41 p1),.d (.sl 41 p2),.d (.int .i64 p3),.d (.int .i64 p4)]=>fun K=>z4z_L13 g n p1 p2 p3 p4 (fun z0=>K .ret (mkSt 49 2 [(2,.d (.int .i64 z0))] [])) (K (.exit 2) (mkSt 49 2 [] [])) | _=>fun _=>none
noncomputable def yrRy:Code:=(Tryz.f19.body).getD .skip
noncomputable def E_z4z (g:C_z4z):Env A:=mkE [(46,ylQy g.z2z),(47,ynQy g.z73z),(48,ynpy g.z21z)] [(4,[0]),(7,[1])] [(4,⟨[0,11,12,13],[],[],[],[],[],[]⟩),(13,⟨[0,36,37,38],[],[],[],[],[],[]⟩)] [(4,⟨[0,2],[],[],[],[],[],[]⟩),(13,⟨[2],[],[],[],[],[],[]⟩)] [(4,yaiy ymGy (ygHy g g.N)),(13,yaiy ylby (yfNy g g.N))] [] [] [] [] []
theorem yDjy [Fuel]:yamy (E_z4z I_z4z).C:=ct_of (P:=Tryz.prog) (T:=T) (.cons yq7y (.cons yzFy (.cons yy5y .nil))) (by kernel_rfl)
noncomputable def ysny:Code:=sub [1,1,0,1,0,0] yrRy
theorem yFey (g:C_z4z) (n:Nat):yaoy (E_z4z g) g.N ysny ymGy (ygHy g) n:=by intro ps; unfold ygHy; split; exact .inr fun R K=>(by kernel_rfl); exact .inl fun R K=>rfl
theorem yC4y [Fuel]:yahy (E_z4z I_z4z) NN ysny:=yaky ymGy (ygHy I_z4z) (by kernel_rfl) yDjy (cuts0 (fun _=>rfl) (by kernel_rfl)) (fun ps R K=>by unfold ygHy; split <;> (try unfold z4z_L4) <;> rfl) (yFey I_z4z)
noncomputable def ypny:Code:=sub [1,1,1,0,1,0,0] yrRy
theorem yDny (g:C_z4z) (n:Nat):yaoy (E_z4z g) g.N ypny ylby (yfNy g) n:=by intro ps; unfold yfNy; split; exact .inr fun R K=>(by kernel_rfl); exact .inl fun R K=>rfl
theorem yAKy [Fuel]:yahy (E_z4z I_z4z) NN ypny:=yaky ylby (yfNy I_z4z) (by kernel_rfl) yDjy (cuts0 (fun _=>rfl) (by kernel_rfl)) (fun ps R K=>by unfold yfNy; split <;> (try unfold z4z_L13) <;> rfl) (yDny I_z4z)
theorem yKYy (g:C_z4z):Same (yq5y (@z4z_ g)) (abody (E_z4z g) Tryz.f19 yrRy 2 [] [.asis] g.N):=by intro args; unfold yq5y; split; exact .inr fun R k=>(by kernel_rfl); exact .inl fun R k=>rfl
theorem yC6y [Fuel]:Ok 19 (yq5y (@z4z _)):=yacy std (.cons yq7y (.cons yzFy (.cons yy5y .nil))) ⟨rfl,rfl,by kernel_rfl,rfl,rfl,rfl⟩ (yKYy I_z4z) (cutsL (fun _=>rfl) (.cons yC4y (.cons yAKy .nil)) (by kernel_rfl)) Tryz.func19 (by kernel_rfl) (by kernel_rfl)
abbrev yvzy:Type 1:=G_Stream→Int→{R:Type}→(List G_Deed→G_Stream→Option R)→Option R
structure C_z28z where
 N:Nat
 z19z:yuAy
 z4z:T_z4z
def z28z_L2 (g:C_z28z):Nat→Int→Int→G_Stream→{R:Type}→(G_Stream→List G_Deed→Option R)→(G_Stream→Option R)→Option R
 | 0,_,_,_,_,_,_=>none
 | n + 1,v3,v4,v5,_,e0,e1=>(bif (decide (v4 < 5)) then (g.z19z v5 v3 (fun r9 r10=>(g.z4z r9 (fun r11=>(bif (r11 == 0) then e0 r10 r9 else z28z_L2 g n v3 (w64 (v4 + 1)) r10 e0 e1))))) else e1 v5)
def z28z_ (g:C_z28z) (a1:G_Stream) (a2:Int) {R:Type} (k0:List G_Deed→G_Stream→Option R):Option R :=
 (z28z_L2 g g.N a2 0 a1 (fun e12 e13=>k0 e13 e12) (fun e14=>k0 [] e14))
noncomputable def ye4y [Fuel]:C_z28z:=⟨NN,@z19z _,@z4z _⟩
noncomputable def z28z [Fuel]:yvzy:=@z28z_ ye4y
def ymXy (g:yvzy):Spec A:=fun args=>match args with | [.box [.d (.sl 3 a1),.d (.int .i64 a2)],.d (.int .i64 a3)]=>fun k=>g ⟨a1,a2⟩ a3 (fun z0 z1=>k (.arr 41 z0) [.box [.d (.sl 3 z1.f_L),.d (.int .i64 z1.f_at)],.undef]) | _=>fun _=>none
def yley:SSt:=mkSh 16 2 [(0,.ptr 0 0),(1,.int .i64),(6,.int .i64)] [(0,.box [.sl 3,.int .i64])]
def yfey (g:C_z28z) (n:Nat):LPT A:=fun ps=>match ps with | [.d (.int .i64 p1),.d (.int .i64 p2),.d (.sl 3 p3),.d (.int .i64 p4)]=>fun K=>z28z_L2 g n p1 p2 ⟨p3,p4⟩ (fun z0 z1=>K .ret (mkSt 16 2 [(0,.ptr 0 0),(4,.own 41 1)] [(0,some (.box [.d (.sl 3 z0.f_L),.d (.int .i64 z0.f_at)])),(1,some (.row 41 z1))])) (fun z0=>K (.exit 0) (mkSt 16 2 [(0,.ptr 0 0)] [(0,some (.box [.d (.sl 3 z0.f_L),.d (.int .i64 z0.f_at)]))])) | _=>fun _=>none
noncomputable def yBsy:Code:=(Tryz.f4.body).getD .skip
noncomputable def yq1y (g:C_z28z):Env A:=mkE [(18,yn1y g.z19z),(19,yq5y g.z4z)] [(10,[1])] [(2,⟨[0,1,6],[],[0],[],[],[],[]⟩)] [(2,⟨[0,4],[],[0,1],[],[],[],[]⟩)] [(2,yaiy yley (yfey g g.N))] [] [] [] [] [0]
theorem yFny [Fuel]:yamy (yq1y ye4y).C:=ct_of (P:=Tryz.prog) (T:=T) (.cons yyFy (.cons yC6y .nil)) (by kernel_rfl)
noncomputable def yqly:Code:=sub [1,0,1,0,0] yBsy
theorem yB4y (g:C_z28z) (n:Nat):yaoy (yq1y g) g.N yqly yley (yfey g) n:=by intro ps; unfold yfey; split; exact .inr fun R K=>(by kernel_rfl); exact .inl fun R K=>rfl
theorem yANy [Fuel]:yahy (yq1y ye4y) NN yqly:=yaky yley (yfey ye4y) (by kernel_rfl) yFny (cuts0 (fun _=>rfl) (by kernel_rfl)) (fun ps R K=>by unfold yfey; split <;> (try unfold z28z_L2) <;> rfl) (yB4y ye4y)
theorem yGvy (g:C_z28z):Same (ymXy (@z28z_ g)) (abody (yq1y g) Tryz.f4 yBsy 2 [0] [.arr 41] g.N):=by intro args; unfold ymXy; split; exact .inr fun R k=>(by kernel_rfl); exact .inl fun R k=>rfl
theorem yzqy [Fuel]:Ok 4 (ymXy (@z28z _)):=yacy std (.cons yyFy (.cons yC6y .nil)) ⟨rfl,rfl,by kernel_rfl,rfl,rfl,rfl⟩ (yGvy ye4y) (cutsL (fun _=>rfl) (.cons yANy .nil) (by kernel_rfl)) Tryz.func4 (by kernel_rfl) (by kernel_rfl)
abbrev ybDy:Type 1:=List UInt8→{R:Type}→(Bool→Option R)→Option R
structure C_kit_IsKey where
 N:Nat
 strings_IndexByte:ycky
 strings_Trim:ydLy
def yqXy (g:C_kit_IsKey) (a1:List UInt8) {R:Type} (k0:Bool→Option R):Option R :=
 (bif (!(a1 == [])) then (bif (decide ((a1.length:Int)≤40)) then (at_ a1 0 fun x2=>(g.strings_IndexByte [97,98,99,100,101,102,103,104,105,106,107,108,109,110,111,112,113,114,115,116,117,118,119,120,121,122] (x2.toNat:Int) (fun r3=>(bif (decide (r3 ≥ 0)) then (g.strings_Trim a1 [97,98,99,100,101,102,103,104,105,106,107,108,109,110,111,112,113,114,115,116,117,118,119,120,121,122,48,49,50,51,52,53,54,55,56,57,45,95] (fun r4=>k0 (r4 == []))) else k0 false)))) else k0 false) else k0 false)
noncomputable def yoqy [Fuel]:C_kit_IsKey:=⟨NN,@strings_IndexByte _,@strings_Trim _⟩
noncomputable def kit_IsKey [Fuel]:ybDy:=@yqXy yoqy
def ybly (g:ybDy):Spec A:=fun args=>match args with | [.d (.str a1)]=>fun k=>g a1 (fun z0=>k (.d (.bool z0)) [.undef]) | _=>fun _=>none
noncomputable def yHJy:Code:=(Tryz.f66.body).getD .skip
noncomputable def yw2y (g:C_kit_IsKey):Env A:=mkE [(105,ycXy g.strings_IndexByte),(106,yfBy g.strings_Trim)] [] [] [] [] [] [] [] [] []
theorem ytKy (g:C_kit_IsKey):Same (ybly (@yqXy g)) (abody (yw2y g) Tryz.f66 yHJy 0 [] [.asis] g.N):=by intro args; unfold ybly; split; exact .inr fun R k=>(by kernel_rfl); exact .inl fun R k=>rfl
theorem yaXy [Fuel]:Ok 66 (ybly (@kit_IsKey _)):=yacy std (.cons ycUy (.cons yiEy .nil)) ⟨rfl,rfl,by kernel_rfl,rfl,rfl,rfl⟩ (ytKy yoqy) (cuts0 (fun _=>rfl) (by kernel_rfl)) Tryz.func66 (by kernel_rfl) (by kernel_rfl)
abbrev yfny:Type 1:=Int→Int→Int→{R:Type}→(Bool→Option R)→Option R
def z49z_ (g:Nat) (a1 a2 a3:Int) {R:Type} (k0:Bool→Option R):Option R :=
 (bif (decide (a1 < a2)) then k0 true else k0 (decide (a1 > a3)))
noncomputable def z49z [Fuel]:yfny:=@z49z_ NN
def yc8y (g:yfny):Spec A:=fun args=>match args with | [.d (.int .i64 a1),.d (.int .i64 a2),.d (.int .i64 a3)]=>fun k=>g a1 a2 a3 (fun z0=>k (.d (.bool z0)) [.undef,.undef,.undef]) | _=>fun _=>none
noncomputable def yFZy:Code:=(Tryz.f60.body).getD .skip
noncomputable def yKNy (g:Nat):Env A:=mkE [] [] [] [] [] [] [] [] [] []
theorem yIzy (g:Nat):Same (yc8y (@z49z_ g)) (abody (yKNy g) Tryz.f60 yFZy 0 [] [.asis] g):=by intro args; unfold yc8y; split; exact .inr fun R k=>(by kernel_rfl); exact .inl fun R k=>rfl
theorem yeDy [Fuel]:Ok 60 (yc8y (@z49z _)):=yacy std .nil ⟨rfl,rfl,by kernel_rfl,rfl,rfl,rfl⟩ (yIzy NN) (cuts0 (fun _=>rfl) (by kernel_rfl)) Tryz.func60 (by kernel_rfl) (by kernel_rfl)
abbrev yh4y:Type 1:=Int→{R:Type}→(Bool→Option R)→Option R
structure C_z50z where
 N:Nat
 z49z:yfny
def z50z_ (g:C_z50z) (a1:Int) {R:Type} (k0:Bool→Option R):Option R :=
 (g.z49z a1 0 345686399999 (fun r2=>k0 (!r2)))
noncomputable def ytBy [Fuel]:C_z50z:=⟨NN,@z49z _⟩
noncomputable def z50z [Fuel]:yh4y:=@z50z_ ytBy
def yeFy (g:yh4y):Spec A:=fun args=>match args with | [.d (.int .i64 a1)]=>fun k=>g a1 (fun z0=>k (.d (.bool z0)) [.undef]) | _=>fun _=>none
noncomputable def yGry:Code:=(Tryz.f27.body).getD .skip
noncomputable def yJVy (g:C_z50z):Env A:=mkE [(60,yc8y g.z49z)] [] [] [] [] [] [] [] [] []
theorem yHjy (g:C_z50z):Same (yeFy (@z50z_ g)) (abody (yJVy g) Tryz.f27 yGry 0 [] [.asis] g.N):=by intro args; unfold yeFy; split; exact .inr fun R k=>(by kernel_rfl); exact .inl fun R k=>rfl
theorem yhBy [Fuel]:Ok 27 (yeFy (@z50z _)):=yacy std (.cons yeDy .nil) ⟨rfl,rfl,by kernel_rfl,rfl,rfl,rfl⟩ (yHjy ytBy) (cuts0 (fun _=>rfl) (by kernel_rfl)) Tryz.func27 (by kernel_rfl) (by kernel_rfl)
abbrev ydwy:Type 1:=Int→{R:Type}→(Bool→Option R)→Option R
structure C_kit_IsMode where
 N:Nat
 z49z:yfny
def yi1y (g:C_kit_IsMode) (a1:Int) {R:Type} (k0:Bool→Option R):Option R :=
 (g.z49z a1 1 3 (fun r2=>k0 (!r2)))
noncomputable def yhOy [Fuel]:C_kit_IsMode:=⟨NN,@z49z _⟩
noncomputable def kit_IsMode [Fuel]:ydwy:=@yi1y yhOy
def ycoy (g:ydwy):Spec A:=fun args=>match args with | [.d (.int .i64 a1)]=>fun k=>g a1 (fun z0=>k (.d (.bool z0)) [.undef]) | _=>fun _=>none
noncomputable def yFGy:Code:=(Tryz.f65.body).getD .skip
noncomputable def yt7y (g:C_kit_IsMode):Env A:=mkE [(60,yc8y g.z49z)] [] [] [] [] [] [] [] [] []
theorem ytjy (g:C_kit_IsMode):Same (ycoy (@yi1y g)) (abody (yt7y g) Tryz.f65 yFGy 0 [] [.asis] g.N):=by intro args; unfold ycoy; split; exact .inr fun R k=>(by kernel_rfl); exact .inl fun R k=>rfl
theorem yemy [Fuel]:Ok 65 (ycoy (@kit_IsMode _)):=yacy std (.cons yeDy .nil) ⟨rfl,rfl,by kernel_rfl,rfl,rfl,rfl⟩ (ytjy yhOy) (cuts0 (fun _=>rfl) (by kernel_rfl)) Tryz.func65 (by kernel_rfl) (by kernel_rfl)
abbrev yv7y:Type 1:=Int→{R:Type}→(Bool→Option R)→Option R
def z89z_ (g:Nat) (a1:Int) {R:Type} (k0:Bool→Option R):Option R :=
 (bif (decide (a1 ≥ 97)) then k0 (decide (a1≤122)) else k0 false)
noncomputable def z89z [Fuel]:yv7y:=@z89z_ NN
def ynUy (g:yv7y):Spec A:=fun args=>match args with | [.d (.int .u8 a1)]=>fun k=>g a1 (fun z0=>k (.d (.bool z0)) [.undef]) | _=>fun _=>none
noncomputable def yENy:Code:=(Tryz.f201.body).getD .skip
noncomputable def yKny (g:Nat):Env A:=mkE [] [] [] [] [] [] [] [] [] []
theorem yJay (g:Nat):Same (ynUy (@z89z_ g)) (abody (yKny g) Tryz.f201 yENy 0 [] [.asis] g):=by intro args; unfold ynUy; split; exact .inr fun R k=>(by kernel_rfl); exact .inl fun R k=>rfl
theorem yzKy [Fuel]:Ok 201 (ynUy (@z89z _)):=yacy std .nil ⟨rfl,rfl,by kernel_rfl,rfl,rfl,rfl⟩ (yJay NN) (cuts0 (fun _=>rfl) (by kernel_rfl)) Tryz.func201 (by kernel_rfl) (by kernel_rfl)
abbrev yqyy:Type 1:=Int→{R:Type}→(Bool→Option R)→Option R
def z87z_ (g:Nat) (a1:Int) {R:Type} (k0:Bool→Option R):Option R :=
 (bif (decide (a1 ≥ 48)) then k0 (decide (a1≤57)) else k0 false)
noncomputable def z87z [Fuel]:yqyy:=@z87z_ NN
def yj2y (g:yqyy):Spec A:=fun args=>match args with | [.d (.int .u8 a1)]=>fun k=>g a1 (fun z0=>k (.d (.bool z0)) [.undef]) | _=>fun _=>none
noncomputable def yEty:Code:=(Tryz.f169.body).getD .skip
noncomputable def yKSy (g:Nat):Env A:=mkE [] [] [] [] [] [] [] [] [] []
theorem yFzy (g:Nat):Same (yj2y (@z87z_ g)) (abody (yKSy g) Tryz.f169 yEty 0 [] [.asis] g):=by intro args; unfold yj2y; split; exact .inr fun R k=>(by kernel_rfl); exact .inl fun R k=>rfl
theorem yrqy [Fuel]:Ok 169 (yj2y (@z87z _)):=yacy std .nil ⟨rfl,rfl,by kernel_rfl,rfl,rfl,rfl⟩ (yFzy NN) (cuts0 (fun _=>rfl) (by kernel_rfl)) Tryz.func169 (by kernel_rfl) (by kernel_rfl)
abbrev yqky:Type 1:=List UInt8→{R:Type}→(Int→Bool→Option R)→Option R
structure C_z52z where
 N:Nat
 z87z:yqyy
 z89z:yv7y
def z52z_L2 (g:C_z52z):Nat→List UInt8→Int→Int→Int→{R:Type}→(Int→Bool→Option R)→(Int→Option R)→Option R
 | 0,_,_,_,_,_,_,_=>none
 | n + 1,v2,v3,v4,v5,_,e0,e1=>(bif (decide (v5 < v4)) then (get_ v2 v5 fun x10=>(g.z89z (x10.toNat:Int) (fun r11=>(bif r11 then z52z_L2 g n v2 (w64 (v3 + 1)) v4 (w64 (v5 + 1)) e0 e1 else (get_ v2 v5 fun x12=>(g.z87z (x12.toNat:Int) (fun r13=>(bif (!r13) then e0 0 false else z52z_L2 g n v2 v3 v4 (w64 (v5 + 1)) e0 e1)))))))) else e1 v3)
def z52z_ (g:C_z52z) (a1:List UInt8) {R:Type} (k0:Int→Bool→Option R):Option R :=
 (z52z_L2 g g.N a1 0 (a1.length:Int) 0 (fun e14 e15=>k0 e14 e15) (fun e16=>k0 e16 true))
noncomputable def yjIy [Fuel]:C_z52z:=⟨NN,@z87z _,@z89z _⟩
noncomputable def z52z [Fuel]:yqky:=@z52z_ yjIy
def yjmy (g:yqky):Spec A:=fun args=>match args with | [.d (.str a1)]=>fun k=>g a1 (fun z0 z1=>k (.tup [.d (.int .i64 z0),.d (.bool z1)]) [.undef]) | _=>fun _=>none
def ykCy:SSt:=mkSh 25 0 [(0,.str),(2,.int .i64),(6,.int .i64),(7,.int .i64)] []
def ye7y (g:C_z52z) (n:Nat):LPT A:=fun ps=>match ps with | [.d (.str p1),.d (.int .i64 p2),.d (.int .i64 p3),.d (.int .i64 p4)]=>fun K=>z52z_L2 g n p1 p2 p3 p4 (fun z0 z1=>K .ret (mkSt 25 0 [(2,.d (.int .i64 z0)),(3,.d (.bool z1))] [])) (fun z0=>K (.exit 0) (mkSt 25 0 [(2,.d (.int .i64 z0))] [])) | _=>fun _=>none
noncomputable def yufy:Code:=(Tryz.f168.body).getD .skip
noncomputable def yqpy (g:C_z52z):Env A:=mkE [(169,yj2y g.z87z),(201,ynUy g.z89z)] [] [(2,⟨[0,2,6,7],[],[],[],[],[],[]⟩)] [(2,⟨[2,3],[],[],[],[],[],[]⟩)] [(2,yaiy ykCy (ye7y g g.N))] [] [] [] [] []
theorem yHty [Fuel]:yamy (yqpy yjIy).C:=ct_of (P:=Tryz.prog) (T:=T) (.cons yrqy (.cons yzKy .nil)) (by kernel_rfl)
noncomputable def ypsy:Code:=sub [1,0,1,0,0] yufy
theorem yBty (g:C_z52z) (n:Nat):yaoy (yqpy g) g.N ypsy ykCy (ye7y g) n:=by intro ps; unfold ye7y; split; exact .inr fun R K=>(by kernel_rfl); exact .inl fun R K=>rfl
theorem yz0y [Fuel]:yahy (yqpy yjIy) NN ypsy:=yaky ykCy (ye7y yjIy) (by kernel_rfl) yHty (cuts0 (fun _=>rfl) (by kernel_rfl)) (fun ps R K=>by unfold ye7y; split <;> (try unfold z52z_L2) <;> rfl) (yBty yjIy)
theorem yGwy (g:C_z52z):Same (yjmy (@z52z_ g)) (abody (yqpy g) Tryz.f168 yufy 0 [] [.asis,.asis] g.N):=by intro args; unfold yjmy; split; exact .inr fun R k=>(by kernel_rfl); exact .inl fun R k=>rfl
theorem yyty [Fuel]:Ok 168 (yjmy (@z52z _)):=yacy std (.cons yrqy (.cons yzKy .nil)) ⟨rfl,rfl,by kernel_rfl,rfl,rfl,rfl⟩ (yGwy yjIy) (cutsL (fun _=>rfl) (.cons yz0y .nil) (by kernel_rfl)) Tryz.func168 (by kernel_rfl) (by kernel_rfl)
abbrev yigy:Type 1:=List UInt8→{R:Type}→(Int→Bool→Option R)→Option R
structure C_call_split where
 N:Nat
 z52z:yqky
 z9z:T_z9z
def yn8y (g:C_call_split) (a1:List UInt8) {R:Type} (k0:Int→Bool→Option R):Option R :=
 (g.z52z a1 (fun r2 r3=>(bif (!r3) then k0 0 false else (bif (decide ((a1.length:Int) > 10)) then k0 0 false else (g.z9z a1 [48,49,50,51,52,53,54,55,56,57] (fun r4=>(bif (decide (r4 < 1)) then k0 0 false else (bif (decide (r4 > 3)) then k0 0 false else (bif (decide ((w64 ((w64 ((a1.length:Int) - r4)) - 1)) < 1)) then k0 0 false else (bif (decide ((w64 ((w64 ((a1.length:Int) - r4)) - 1)) > 4)) then k0 0 false else (bif (decide (0≤r4) && decide (r4≤(a1.length:Int))) then (g.z52z (a1.take (r4:Int).toNat) (fun r5 r6=>k0 r4 (decide (r5 > 0)))) else none)))))))))))
noncomputable def ylTy [Fuel]:C_call_split:=⟨NN,@z52z _,@z9z _⟩
noncomputable def call_split [Fuel]:yigy:=@yn8y ylTy
def yefy (g:yigy):Spec A:=fun args=>match args with | [.d (.str a1)]=>fun k=>g a1 (fun z0 z1=>k (.tup [.d (.int .i64 z0),.d (.bool z1)]) [.undef]) | _=>fun _=>none
noncomputable def yDJy:Code:=(Tryz.f166.body).getD .skip
noncomputable def yvAy (g:C_call_split):Env A:=mkE [(168,yjmy g.z52z),(199,ylZy g.z9z)] [] [] [] [] [] [] [] [] []
theorem ytiy (g:C_call_split):Same (yefy (@yn8y g)) (abody (yvAy g) Tryz.f166 yDJy 0 [] [.asis,.asis] g.N):=by intro args; unfold yefy; split; exact .inr fun R k=>(by kernel_rfl); exact .inl fun R k=>rfl
theorem ytsy [Fuel]:Ok 166 (yefy (@call_split _)):=yacy std (.cons yyty (.cons yCty .nil)) ⟨rfl,rfl,by kernel_rfl,rfl,rfl,rfl⟩ (ytiy ylTy) (cuts0 (fun _=>rfl) (by kernel_rfl)) Tryz.func166 (by kernel_rfl) (by kernel_rfl)
abbrev yify:Type 1:=List UInt8→{R:Type}→(G_Parts→Bool→Option R)→Option R
structure C_call_based where
 N:Nat
 call_split:yigy
def yooy (g:C_call_based) (a1:List UInt8) {R:Type} (k0:G_Parts→Bool→Option R):Option R :=
 (g.call_split a1 (fun r2 r3=>(bif (!r3) then k0 (⟨[],[],[],0,[]⟩:G_Parts) false else (bif (decide (0≤(w64 (r2 + 1))) && decide ((w64 (r2 + 1))≤(a1.length:Int))) then (bif (decide (0≤(w64 (r2 + 1))) && decide ((w64 (r2 + 1))≤(a1.length:Int))) then k0 (⟨a1,(a1.take ((w64 (r2 + 1)):Int).toNat),(a1.drop ((w64 (r2 + 1)):Int).toNat),0,[]⟩:G_Parts) true else none) else none))))
noncomputable def ymVy [Fuel]:C_call_based:=⟨NN,@call_split _⟩
noncomputable def call_based [Fuel]:yify:=@yooy ymVy
def yegy (g:yify):Spec A:=fun args=>match args with | [.d (.str a1)]=>fun k=>g a1 (fun z0 z1=>k (.tup [.agg [.d (.str z0.f_Base),.d (.str z0.f_Prefix),.d (.str z0.f_Suffix),.d (.int .i64 z0.f_Kind),.d (.str z0.f_Added)],.d (.bool z1)]) [.undef]) | _=>fun _=>none
noncomputable def yEfy:Code:=(Tryz.f141.body).getD .skip
noncomputable def yujy (g:C_call_based):Env A:=mkE [(166,yefy g.call_split)] [(2,[0])] [] [] [] [] [] [] [] []
theorem ytfy (g:C_call_based):Same (yegy (@yooy g)) (abody (yujy g) Tryz.f141 yEfy 1 [] [.asis,.asis] g.N):=by intro args; unfold yegy; split; exact .inr fun R k=>(by kernel_rfl); exact .inl fun R k=>rfl
theorem ytmy [Fuel]:Ok 141 (yegy (@call_based _)):=yacy std (.cons ytsy .nil) ⟨rfl,rfl,by kernel_rfl,rfl,rfl,rfl⟩ (ytfy ymVy) (cuts0 (fun _=>rfl) (by kernel_rfl)) Tryz.func141 (by kernel_rfl) (by kernel_rfl)
abbrev yqry:Type 1:=List UInt8→{R:Type}→(Bool→Option R)→Option R
structure C_z78z where
 N:Nat
 z52z:yqky
def z78z_ (g:C_z78z) (a1:List UInt8) {R:Type} (k0:Bool→Option R):Option R :=
 (g.z52z a1 (fun r2 r3=>(bif r3 then (bif (decide (r2 > 0)) then k0 (decide ((a1.length:Int)≤4)) else k0 false) else k0 false)))
noncomputable def yBBy [Fuel]:C_z78z:=⟨NN,@z52z _⟩
noncomputable def z78z [Fuel]:yqry:=@z78z_ yBBy
def yjBy (g:yqry):Spec A:=fun args=>match args with | [.d (.str a1)]=>fun k=>g a1 (fun z0=>k (.d (.bool z0)) [.undef]) | _=>fun _=>none
noncomputable def yEly:Code:=(Tryz.f143.body).getD .skip
noncomputable def yJYy (g:C_z78z):Env A:=mkE [(168,yjmy g.z52z)] [] [] [] [] [] [] [] [] []
theorem yFEy (g:C_z78z):Same (yjBy (@z78z_ g)) (abody (yJYy g) Tryz.f143 yEly 0 [] [.asis] g.N):=by intro args; unfold yjBy; split; exact .inr fun R k=>(by kernel_rfl); exact .inl fun R k=>rfl
theorem yyby [Fuel]:Ok 143 (yjBy (@z78z _)):=yacy std (.cons yyty .nil) ⟨rfl,rfl,by kernel_rfl,rfl,rfl,rfl⟩ (yFEy yBBy) (cuts0 (fun _=>rfl) (by kernel_rfl)) Tryz.func143 (by kernel_rfl) (by kernel_rfl)
abbrev yiTy:Type 1:=List UInt8→{R:Type}→(Int→List UInt8→Bool→Option R)→Option R
structure C_call_tail where
 N:Nat
 z78z:yqry
 z87z:yqyy
def ypCy (g:C_call_tail) (a1:List UInt8) {R:Type} (k0:Int→List UInt8→Bool→Option R):Option R :=
 (bif (a1 == [112]) then k0 3 [] true else (bif (a1 == [109]) then k0 4 [] true else (bif (a1 == [109,109]) then k0 5 [] true else (bif (a1 == [97,109]) then k0 6 [] true else (bif ((a1.length:Int) == 1) then (at_ a1 0 fun x2=>(g.z87z (x2.toNat:Int) (fun r3=>(bif r3 then k0 2 a1 true else (g.z78z a1 (fun r4=>k0 1 a1 r4)))))) else (g.z78z a1 (fun r5=>k0 1 a1 r5)))))))
noncomputable def yosy [Fuel]:C_call_tail:=⟨NN,@z78z _,@z87z _⟩
noncomputable def call_tail [Fuel]:yiTy:=@ypCy yosy
def yfpy (g:yiTy):Spec A:=fun args=>match args with | [.d (.str a1)]=>fun k=>g a1 (fun z0 z1 z2=>k (.tup [.d (.int .i64 z0),.d (.str z1),.d (.bool z2)]) [.undef]) | _=>fun _=>none
noncomputable def yERy:Code:=(Tryz.f144.body).getD .skip
noncomputable def yxvy (g:C_call_tail):Env A:=mkE [(143,yjBy g.z78z),(169,yj2y g.z87z)] [] [] [] [] [] [] [] [] []
theorem yvwy (g:C_call_tail):Same (yfpy (@ypCy g)) (abody (yxvy g) Tryz.f144 yERy 0 [] [.asis,.asis,.asis] g.N):=by intro args; unfold yfpy; split; exact .inr fun R k=>(by kernel_rfl); exact .inl fun R k=>rfl
theorem ytSy [Fuel]:Ok 144 (yfpy (@call_tail _)):=yacy std (.cons yyby (.cons yrqy .nil)) ⟨rfl,rfl,by kernel_rfl,rfl,rfl,rfl⟩ (yvwy yosy) (cuts0 (fun _=>rfl) (by kernel_rfl)) Tryz.func144 (by kernel_rfl) (by kernel_rfl)
end Go.Am
