/- The functions of the program as Lean functions, each shown to be what the code computes, part 11. No condition: lemmas for the claim. -/
import Derived.Test.YtnlblmnoiepeaaaGreatDoorF0
import Derived.Test.YtnlblmnoiepeaaaGreatDoorFSh
import Derived.Test.YtnlblmnoiepeaaaGreatDoorF1
import Derived.Test.YtnlblmnoiepeaaaGreatDoorF4
import Derived.Test.YtnlblmnoiepeaaaGreatDoorF5
import Derived.Test.YtnlblmnoiepeaaaGreatDoorF9
import Derived.Test.YtnlblmnoiepeaaaGreatDoorF10
set_option linter.unusedVariables false
set_option maxRecDepth 100000
namespace Go.Am
open Go Go.Proofs
abbrev yh3y:Type 1:=List G_Entrant→List UInt8→{R:Type}→(List G_Place→Int→Option R)→Option R
structure C_club_Table where
 N:Nat
 kit_IsKey:ybry
 z40z:ywJy
 z23z:yydy
def ycly (g:C_club_Table):Nat→List UInt8→List G_Entrant→Int→Int→List G_Place→{R:Type}→(List G_Place→Option R)→Option R
 | 0,_,_,_,_,_,_,_=>none
 | n + 1,v5,v6,v7,v8,v9,_,e0=>(bif (decide (v8 < v7)) then (get_ v6 v8 fun x11=>(bif (x11.f_Category == v5) then (bif (decide ((v9.length + [(⟨0,x11.f_Points,x11.f_Call⟩:G_Place)].length) * 32≤yaly)) then ycly g n v5 v6 v7 (w64 (v8 + 1)) (v9 ++ [(⟨0,x11.f_Points,x11.f_Call⟩:G_Place)]) e0 else none) else ycly g n v5 v6 v7 (w64 (v8 + 1)) v9 e0)) else e0 v9)
def yi4y (g:C_club_Table) (a1:List G_Entrant) (a2:List UInt8) {R:Type} (k0:List G_Place→Int→Option R):Option R :=
 (g.z40z a1 (fun r3=>(bif (r3 != 0) then k0 [] r3 else (g.kit_IsKey a2 (fun r4=>(bif (!r4) then k0 [] 5 else (ycly g g.N a2 a1 (a1.length:Int) 0 [] (fun e12=>(g.z23z e12 (fun r13=>k0 r13 0))))))))))
noncomputable def ybky [Fuel]:C_club_Table:=⟨NN,@kit_IsKey _,@z40z _,@z23z _⟩
noncomputable def club_Table [Fuel]:yh3y:=@yi4y ybky
def yemy (g:yh3y):Spec A:=fun args=>match args with | [.d (.sl 88 a1),.d (.str a2)]=>fun k=>g a1 a2 (fun z0 z1=>k (.tup [.arr 143 z0,.d (.int .i64 z1)]) [.undef,.undef]) | _=>fun _=>none
def yety:SSt:=mkSh 39 5 [(1,.str),(7,.own 143 0),(18,.sl 88),(19,.int .i64),(20,.int .i64)] [(0,.row 143)]
def ycey (g:C_club_Table) (n:Nat):LPT A:=fun ps=>match ps with | [.d (.str p1),.d (.sl 88 p2),.d (.int .i64 p3),.d (.int .i64 p4),.d (.sl 143 p5)]=>fun K=>ycly g n p1 p2 p3 p4 p5 (fun z0=>K (.exit 0) (mkSt 39 5 [(7,.own 143 0)] [(0,some (.row 143 z0))])) | _=>fun _=>none
noncomputable def yBGy:Code:=(Tryz.f46.body).getD .skip
noncomputable def yf1y (g:C_club_Table):Env A:=mkE [(80,ya2y g.kit_IsKey),(85,yo4y g.z40z),(86,yoYy g.z23z)] [(9,[1]),(34,[2]),(35,[3]),(38,[4])] [(8,⟨[1,7,18,19,20],[(7,143,0)],[],[],[],[],[]⟩)] [(8,⟨[7],[],[0],[],[],[],[]⟩)] [(8,yafy yety (ycey g g.N))] [] [] [] [(86,0)] []
theorem yvny [Fuel]:yahy (yf1y ybky).C:=ct_of (P:=Tryz.prog) (T:=T) (.cons yaKy (.cons yBny (.cons yA9y .nil))) (by kernel_rfl)
noncomputable def yhTy:Code:=sub [1,1,1,1,0,1,0,0] yBGy
theorem yqIy (g:C_club_Table) (n:Nat):yaky (yf1y g) g.N yhTy yety (ycey g) n:=by intro ps; unfold ycey; split; exact .inr fun R K=>(by kernel_rfl); exact .inl fun R K=>rfl
theorem yqey [Fuel]:yacy (yf1y ybky) NN yhTy:=yaey yety (ycey ybky) (by kernel_rfl) yvny (cuts0 (fun _=>rfl) (by kernel_rfl)) (fun ps R K=>by unfold ycey; split <;> (try unfold ycly) <;> rfl) (yqIy ybky)
theorem yvhy (g:C_club_Table):Same (yemy (@yi4y g)) (abody (yf1y g) Tryz.f46 yBGy 5 [] [.arr 143,.asis] g.N):=by intro args; unfold yemy; split; exact .inr fun R k=>(by kernel_rfl); exact .inl fun R k=>rfl
theorem yu2y [Fuel]:Ok 46 (yemy (@club_Table _)):=yaay std (.cons yaKy (.cons yBny (.cons yA9y .nil))) ⟨rfl,rfl,by kernel_rfl,rfl,rfl,rfl⟩ (yvhy ybky) (cutsL (fun _=>rfl) (.cons yqey .nil) (by kernel_rfl)) Tryz.func46 (by kernel_rfl) (by kernel_rfl)
abbrev ytqy:Type 1:=G_Deed→{R:Type}→(Int→Option R)→Option R
structure C_z102z where
 N:Nat
 z76z:yrPy
def z102z_ (g:C_z102z) (a1:G_Deed) {R:Type} (k0:Int→Option R):Option R :=
 (g.z76z a1.f_Contact (fun r2=>(bif (r2 != 0) then k0 r2 else (bif (decide (a1.f_Contact.f_At > a1.f_At)) then k0 1 else k0 0))))
noncomputable def yAMy [Fuel]:C_z102z:=⟨NN,@z76z _⟩
noncomputable def z102z [Fuel]:ytqy:=@z102z_ yAMy
def ylHy (g:ytqy):Spec A:=fun args=>match args with | [.agg [.d (.str a1),.d (.int .i64 a2),.d (.int .i64 a3),.d (.int .i64 a4),.d (.int .i64 a5),.d (.int .i64 a6),.d (.str a7),.d (.str a8),.d (.int .i64 a9),.d (.int .i64 a10),.d (.str a11),.d (.str a12),.d (.str a13),.d (.str a14),.d (.int .i64 a15)]]=>fun k=>g ⟨a1,a2,a3,a4,⟨a5,a6,a7,a8,a9,a10,a11,a12⟩,a13,a14,a15⟩ (fun z0=>k (.d (.int .i64 z0)) [.undef]) | _=>fun _=>none
noncomputable def yIqy:Code:=(Tryz.f259.body).getD .skip
noncomputable def yJLy (g:C_z102z):Env A:=mkE [(72,yjNy g.z76z)] [(1,[0])] [] [] [] [] [] [] [] []
theorem yIjy (g:C_z102z):Same (ylHy (@z102z_ g)) (abody (yJLy g) Tryz.f259 yIqy 1 [] [.asis] g.N):=by intro args; unfold ylHy; split; exact .inr fun R k=>(by kernel_rfl); exact .inl fun R k=>rfl
theorem yG1y [Fuel]:Ok 259 (ylHy (@z102z _)):=yaay std (.cons ytEy .nil) ⟨rfl,rfl,by kernel_rfl,rfl,rfl,rfl⟩ (yIjy yAMy) (cuts0 (fun _=>rfl) (by kernel_rfl)) Tryz.func259 (by kernel_rfl) (by kernel_rfl)
abbrev yy6y:Type 1:=G_Deed→{R:Type}→(Int→Option R)→Option R
structure C_z99z where
 N:Nat
 z45z:ycHy
 kit_IsKey:ybry
 z102z:ytqy
def z99z_ (g:C_z99z) (a1:G_Deed) {R:Type} (k0:Int→Option R):Option R :=
 (bif (a1.f_Kind == 1) then (g.z102z a1 (fun r2=>k0 r2)) else (bif (a1.f_Kind == 2) then (g.kit_IsKey a1.f_Band (fun r3=>(bif (!r3) then k0 5 else k0 0))) else (bif (a1.f_Kind == 5) then (g.kit_IsKey a1.f_Of (fun r4=>(bif (!r4) then k0 5 else (g.z45z a1.f_Other 1 1000000 (fun r5=>(bif r5 then k0 1 else k0 0)))))) else (g.z45z a1.f_Contact.f_Sent 1 99999 (fun r6=>(bif r6 then k0 1 else k0 0))))))
noncomputable def yF7y [Fuel]:C_z99z:=⟨NN,@z45z _,@kit_IsKey _,@z102z _⟩
noncomputable def z99z [Fuel]:yy6y:=@z99z_ yF7y
def yojy (g:yy6y):Spec A:=fun args=>match args with | [.agg [.d (.str a1),.d (.int .i64 a2),.d (.int .i64 a3),.d (.int .i64 a4),.d (.int .i64 a5),.d (.int .i64 a6),.d (.str a7),.d (.str a8),.d (.int .i64 a9),.d (.int .i64 a10),.d (.str a11),.d (.str a12),.d (.str a13),.d (.str a14),.d (.int .i64 a15)]]=>fun k=>g ⟨a1,a2,a3,a4,⟨a5,a6,a7,a8,a9,a10,a11,a12⟩,a13,a14,a15⟩ (fun z0=>k (.d (.int .i64 z0)) [.undef]) | _=>fun _=>none
noncomputable def yGDy:Code:=(Tryz.f236.body).getD .skip
noncomputable def yOhy (g:C_z99z):Env A:=mkE [(42,ybWy g.z45z),(80,ya2y g.kit_IsKey),(259,ylHy g.z102z)] [(1,[0])] [] [] [] [] [] [] [] []
theorem yL6y (g:C_z99z):Same (yojy (@z99z_ g)) (abody (yOhy g) Tryz.f236 yGDy 1 [] [.asis] g.N):=by intro args; unfold yojy; split; exact .inr fun R k=>(by kernel_rfl); exact .inl fun R k=>rfl
theorem yJky [Fuel]:Ok 236 (yojy (@z99z _)):=yaay std (.cons ybZy (.cons yaKy (.cons yG1y .nil))) ⟨rfl,rfl,by kernel_rfl,rfl,rfl,rfl⟩ (yL6y yF7y) (cuts0 (fun _=>rfl) (by kernel_rfl)) Tryz.func236 (by kernel_rfl) (by kernel_rfl)
abbrev ylRy:Type 1:=G_Deed→{R:Type}→(Bool→Option R)→Option R
def yuTy (g:Nat) (a1:G_Deed) {R:Type} (k0:Bool→Option R):Option R :=
 (bif (a1.f_Kind == 3) then (bif (a1.f_Kind == 1) then (bif (a1.f_Kind == 2) then (bif (a1.f_Kind == 5) then k0 true else (bif (a1.f_Of == []) then k0 (a1.f_Other == 0) else k0 false)) else (bif (a1.f_Band == []) then (bif (a1.f_Kind == 5) then k0 true else (bif (a1.f_Of == []) then k0 (a1.f_Other == 0) else k0 false)) else k0 false)) else (bif (yhYy a1.f_Contact (⟨0,0,[],[],a1.f_Contact.f_Sent,0,[],[]⟩:G_Contact)) then (bif (a1.f_Kind == 2) then (bif (a1.f_Kind == 5) then k0 true else (bif (a1.f_Of == []) then k0 (a1.f_Other == 0) else k0 false)) else (bif (a1.f_Band == []) then (bif (a1.f_Kind == 5) then k0 true else (bif (a1.f_Of == []) then k0 (a1.f_Other == 0) else k0 false)) else k0 false)) else k0 false)) else (bif (a1.f_Kind == 4) then (bif (a1.f_Kind == 1) then (bif (a1.f_Kind == 2) then (bif (a1.f_Kind == 5) then k0 true else (bif (a1.f_Of == []) then k0 (a1.f_Other == 0) else k0 false)) else (bif (a1.f_Band == []) then (bif (a1.f_Kind == 5) then k0 true else (bif (a1.f_Of == []) then k0 (a1.f_Other == 0) else k0 false)) else k0 false)) else (bif (yhYy a1.f_Contact (⟨0,0,[],[],a1.f_Contact.f_Sent,0,[],[]⟩:G_Contact)) then (bif (a1.f_Kind == 2) then (bif (a1.f_Kind == 5) then k0 true else (bif (a1.f_Of == []) then k0 (a1.f_Other == 0) else k0 false)) else (bif (a1.f_Band == []) then (bif (a1.f_Kind == 5) then k0 true else (bif (a1.f_Of == []) then k0 (a1.f_Other == 0) else k0 false)) else k0 false)) else k0 false)) else (bif (a1.f_Kind == 1) then (bif (a1.f_Kind == 2) then (bif (a1.f_Kind == 5) then k0 true else (bif (a1.f_Of == []) then k0 (a1.f_Other == 0) else k0 false)) else (bif (a1.f_Band == []) then (bif (a1.f_Kind == 5) then k0 true else (bif (a1.f_Of == []) then k0 (a1.f_Other == 0) else k0 false)) else k0 false)) else (bif (yhYy a1.f_Contact (⟨0,0,[],[],0,0,[],[]⟩:G_Contact)) then (bif (a1.f_Kind == 2) then (bif (a1.f_Kind == 5) then k0 true else (bif (a1.f_Of == []) then k0 (a1.f_Other == 0) else k0 false)) else (bif (a1.f_Band == []) then (bif (a1.f_Kind == 5) then k0 true else (bif (a1.f_Of == []) then k0 (a1.f_Other == 0) else k0 false)) else k0 false)) else k0 false))))
noncomputable def net_idle [Fuel]:ylRy:=@yuTy NN
def ygGy (g:ylRy):Spec A:=fun args=>match args with | [.agg [.d (.str a1),.d (.int .i64 a2),.d (.int .i64 a3),.d (.int .i64 a4),.d (.int .i64 a5),.d (.int .i64 a6),.d (.str a7),.d (.str a8),.d (.int .i64 a9),.d (.int .i64 a10),.d (.str a11),.d (.str a12),.d (.str a13),.d (.str a14),.d (.int .i64 a15)]]=>fun k=>g ⟨a1,a2,a3,a4,⟨a5,a6,a7,a8,a9,a10,a11,a12⟩,a13,a14,a15⟩ (fun z0=>k (.d (.bool z0)) [.undef]) | _=>fun _=>none
noncomputable def yHFy:Code:=(Tryz.f237.body).getD .skip
noncomputable def yCKy (g:Nat):Env A:=mkE [] [(1,[0]),(5,[1])] [] [] [] [] [] [] [] []
theorem yAky (g:Nat):Same (ygGy (@yuTy g)) (abody (yCKy g) Tryz.f237 yHFy 2 [] [.asis] g):=by intro args; unfold ygGy; split; exact .inr fun R k=>(by kernel_rfl); exact .inl fun R k=>rfl
theorem yzAy [Fuel]:Ok 237 (ygGy (@net_idle _)):=yaay std .nil ⟨rfl,rfl,by kernel_rfl,rfl,rfl,rfl⟩ (yAky NN) (cuts0 (fun _=>rfl) (by kernel_rfl)) Tryz.func237 (by kernel_rfl) (by kernel_rfl)
abbrev yily:Type 1:=G_Deed→{R:Type}→(Int→Option R)→Option R
structure C_net_formed where
 N:Nat
 z45z:ycHy
 z62z:yhpy
 kit_IsKey:ybry
 z99z:yy6y
 net_idle:ylRy
def ypHy (g:C_net_formed) (a1:G_Deed) {R:Type} (k0:Int→Option R):Option R :=
 (g.kit_IsKey a1.f_Site (fun r2=>(bif (!r2) then k0 5 else (g.z45z a1.f_No 1 1000000 (fun r3=>(bif r3 then k0 1 else (g.z62z a1.f_At (fun r4=>(bif (!r4) then k0 1 else (g.z45z a1.f_Kind 1 5 (fun r5=>(bif r5 then k0 4 else (g.z99z a1 (fun r6=>(bif (r6 != 0) then k0 r6 else (g.net_idle a1 (fun r7=>(bif (!r7) then k0 3 else k0 0))))))))))))))))))
noncomputable def ynDy [Fuel]:C_net_formed:=⟨NN,@z45z _,@z62z _,@kit_IsKey _,@z99z _,@net_idle _⟩
noncomputable def net_formed [Fuel]:yily:=@ypHy ynDy
def yefy (g:yily):Spec A:=fun args=>match args with | [.agg [.d (.str a1),.d (.int .i64 a2),.d (.int .i64 a3),.d (.int .i64 a4),.d (.int .i64 a5),.d (.int .i64 a6),.d (.str a7),.d (.str a8),.d (.int .i64 a9),.d (.int .i64 a10),.d (.str a11),.d (.str a12),.d (.str a13),.d (.str a14),.d (.int .i64 a15)]]=>fun k=>g ⟨a1,a2,a3,a4,⟨a5,a6,a7,a8,a9,a10,a11,a12⟩,a13,a14,a15⟩ (fun z0=>k (.d (.int .i64 z0)) [.undef]) | _=>fun _=>none
noncomputable def yGby:Code:=(Tryz.f214.body).getD .skip
noncomputable def yxxy (g:C_net_formed):Env A:=mkE [(42,ybWy g.z45z),(74,ydKy g.z62z),(80,ya2y g.kit_IsKey),(236,yojy g.z99z),(237,ygGy g.net_idle)] [(1,[0])] [] [] [] [] [] [] [] []
theorem yviy (g:C_net_formed):Same (yefy (@ypHy g)) (abody (yxxy g) Tryz.f214 yGby 1 [] [.asis] g.N):=by intro args; unfold yefy; split; exact .inr fun R k=>(by kernel_rfl); exact .inl fun R k=>rfl
theorem ymdy [Fuel]:Ok 214 (yefy (@net_formed _)):=yaay std (.cons ybZy (.cons ygdy (.cons yaKy (.cons yJky (.cons yzAy .nil))))) ⟨rfl,rfl,by kernel_rfl,rfl,rfl,rfl⟩ (yviy ynDy) (cuts0 (fun _=>rfl) (by kernel_rfl)) Tryz.func214 (by kernel_rfl) (by kernel_rfl)
abbrev ytJy:Type 1:=G_Deed→G_Deed→{R:Type}→(Int→Option R)→Option R
structure C_z104z where
 N:Nat
 strings_Compare:ybay
 z35z:yhay
 z25z:yhey
def z104z_ (g:C_z104z) (a1 a2:G_Deed) {R:Type} (k0:Int→Option R):Option R :=
 (g.z25z a1.f_At a2.f_At (fun r3=>(g.strings_Compare a1.f_Site a2.f_Site (fun r4=>(g.z25z a1.f_No a2.f_No (fun r5=>(g.z35z [r3,r4,r5] (fun r6=>k0 r6))))))))
noncomputable def yBYy [Fuel]:C_z104z:=⟨NN,@strings_Compare _,@z35z _,@z25z _⟩
noncomputable def z104z [Fuel]:ytJy:=@z104z_ yBYy
def yl6y (g:ytJy):Spec A:=fun args=>match args with | [.agg [.d (.str a1),.d (.int .i64 a2),.d (.int .i64 a3),.d (.int .i64 a4),.d (.int .i64 a5),.d (.int .i64 a6),.d (.str a7),.d (.str a8),.d (.int .i64 a9),.d (.int .i64 a10),.d (.str a11),.d (.str a12),.d (.str a13),.d (.str a14),.d (.int .i64 a15)],.agg [.d (.str a16),.d (.int .i64 a17),.d (.int .i64 a18),.d (.int .i64 a19),.d (.int .i64 a20),.d (.int .i64 a21),.d (.str a22),.d (.str a23),.d (.int .i64 a24),.d (.int .i64 a25),.d (.str a26),.d (.str a27),.d (.str a28),.d (.str a29),.d (.int .i64 a30)]]=>fun k=>g ⟨a1,a2,a3,a4,⟨a5,a6,a7,a8,a9,a10,a11,a12⟩,a13,a14,a15⟩ ⟨a16,a17,a18,a19,⟨a20,a21,a22,a23,a24,a25,a26,a27⟩,a28,a29,a30⟩ (fun z0=>k (.d (.int .i64 z0)) [.undef,.undef]) | _=>fun _=>none
noncomputable def yHyy:Code:=(Tryz.f215.body).getD .skip
noncomputable def yJTy (g:C_z104z):Env A:=mkE [(116,yaGy g.strings_Compare),(121,ybVy g.z35z),(122,ybYy g.z25z)] [(2,[0]),(3,[1]),(20,[2])] [] [] [] [] [] [] [] []
theorem yH3y (g:C_z104z):Same (yl6y (@z104z_ g)) (abody (yJTy g) Tryz.f215 yHyy 3 [] [.asis] g.N):=by intro args; unfold yl6y; split; exact .inr fun R k=>(by kernel_rfl); exact .inl fun R k=>rfl
theorem yzny [Fuel]:Ok 215 (yl6y (@z104z _)):=yaay std (.cons ybiy (.cons ygcy (.cons ygfy .nil))) ⟨rfl,rfl,by kernel_rfl,rfl,rfl,rfl⟩ (yH3y yBYy) (cuts0 (fun _=>rfl) (by kernel_rfl)) Tryz.func215 (by kernel_rfl) (by kernel_rfl)
abbrev yyhy:Type 1:=List G_Deed→{R:Type}→(Int→Option R)→Option R
structure C_z37z where
 N:Nat
 net_formed:yily
 z104z:ytJy
def z37z_L4 (g:C_z37z):Nat→List G_Deed→List G_Deed→Int→Int→{R:Type}→(List G_Deed→Int→Option R)→(List G_Deed→Option R)→Option R
 | 0,_,_,_,_,_,_,_=>none
 | n + 1,v2,v3,v4,v5,_,e0,e1=>(bif (decide (v5 < v4)) then (get_ v3 v5 fun x10=>(g.net_formed x10 (fun r11=>(bif (r11 != 0) then e0 v2 r11 else (bif (decide (v5 > 0)) then (get_ v2 (w64 (v5 - 1)) fun x12=>(g.z104z x12 x10 (fun r13=>(bif (decide (r13 ≥ 0)) then e0 v2 7 else z37z_L4 g n v2 v3 v4 (w64 (v5 + 1)) e0 e1)))) else z37z_L4 g n v2 v3 v4 (w64 (v5 + 1)) e0 e1))))) else e1 v2)
def z37z_L14 (g:C_z37z):Nat→List G_Deed→Int→Int→List (G_net_own×Bool)→{R:Type}→(Int→Option R)→Option R→Option R
 | 0,_,_,_,_,_,_,_=>none
 | n + 1,v17,v18,v19,v20,_,e0,e1=>(bif (decide (v19 < v18)) then (get_ v17 v19 fun x22=>(bif ((yb2y (⟨x22.f_Site,x22.f_No⟩:G_net_own) v20).getD false) then e0 6 else z37z_L14 g n v17 v18 (w64 (v19 + 1)) (ya9y (⟨x22.f_Site,x22.f_No⟩:G_net_own) true v20) e0 e1)) else e1)
def z37z_ (g:C_z37z) (a1:List G_Deed) {R:Type} (k0:Int→Option R):Option R :=
 (bif (decide ((a1.length:Int) > 2000)) then k0 2 else (z37z_L4 g g.N a1 a1 (a1.length:Int) 0 (fun e14 e15=>k0 e15) (fun e16=>(z37z_L14 g g.N e16 (e16.length:Int) 0 [] (fun e23=>k0 e23) (k0 0)))))
noncomputable def yfcy [Fuel]:C_z37z:=⟨NN,@net_formed _,@z104z _⟩
noncomputable def z37z [Fuel]:yyhy:=@z37z_ yfcy
def yony (g:yyhy):Spec A:=fun args=>match args with | [.d (.sl 93 a1)]=>fun k=>g a1 (fun z0=>k (.d (.int .i64 z0)) [.undef]) | _=>fun _=>none
def ylky:SSt:=mkSh 56 4 [(0,.sl 93),(13,.sl 93),(14,.int .i64),(15,.int .i64)] []
def yfNy (g:C_z37z) (n:Nat):LPT A:=fun ps=>match ps with | [.d (.sl 93 p1),.d (.sl 93 p2),.d (.int .i64 p3),.d (.int .i64 p4)]=>fun K=>z37z_L4 g n p1 p2 p3 p4 (fun z0 z1=>K .ret (mkSt 56 4 [(0,.d (.sl 93 z0)),(2,.d (.int .i64 z1))] [])) (fun z0=>K (.exit 0) (mkSt 56 4 [(0,.d (.sl 93 z0))] [])) | _=>fun _=>none
def yjmy:SSt:=mkSh 56 4 [(6,.mp 1),(39,.sl 93),(40,.int .i64),(41,.int .i64)] [(1,.mp 225 4)]
def ydZy (g:C_z37z) (n:Nat):LPT A:=fun ps=>match ps with | [.d (.sl 93 p1),.d (.int .i64 p2),.d (.int .i64 p3),.mp 225 4 p4]=>fun K=>z37z_L14 g n p1 p2 p3 p4 (fun z0=>K .ret (mkSt 56 4 [(2,.d (.int .i64 z0))] [])) (K (.exit 2) (mkSt 56 4 [] [])) | _=>fun _=>none
noncomputable def yqby:Code:=(Tryz.f179.body).getD .skip
noncomputable def yjRy (g:C_z37z):Env A:=mkE [(214,yefy g.net_formed),(215,yl6y g.z104z)] [(4,[0]),(8,[2]),(9,[3]),(38,[1])] [(4,⟨[0,13,14,15],[],[],[],[],[],[]⟩),(14,⟨[6,39,40,41],[],[1],[],[],[],[]⟩)] [(4,⟨[0,2],[],[],[],[],[],[]⟩),(14,⟨[2],[],[],[],[],[],[]⟩)] [(4,yafy ylky (yfNy g g.N)),(14,yafy yjmy (ydZy g g.N))] [] [] [] [] []
theorem yBvy [Fuel]:yahy (yjRy yfcy).C:=ct_of (P:=Tryz.prog) (T:=T) (.cons ymdy (.cons yzny .nil)) (by kernel_rfl)
noncomputable def yrry:Code:=sub [1,1,0,1,0,0] yqby
theorem yEIy (g:C_z37z) (n:Nat):yaky (yjRy g) g.N yrry ylky (yfNy g) n:=by intro ps; unfold yfNy; split; exact .inr fun R K=>(by kernel_rfl); exact .inl fun R K=>rfl
theorem yDBy [Fuel]:yacy (yjRy yfcy) NN yrry:=yaey ylky (yfNy yfcy) (by kernel_rfl) yBvy (cuts0 (fun _=>rfl) (by kernel_rfl)) (fun ps R K=>by unfold yfNy; split <;> (try unfold z37z_L4) <;> rfl) (yEIy yfcy)
noncomputable def ypNy:Code:=sub [1,1,1,1,0,1,0,0] yqby
theorem yDiy (g:C_z37z) (n:Nat):yaky (yjRy g) g.N ypNy yjmy (ydZy g) n:=by intro ps; unfold ydZy; split; exact .inr fun R K=>(by kernel_rfl); exact .inl fun R K=>rfl
theorem yzoy [Fuel]:yacy (yjRy yfcy) NN ypNy:=yaey yjmy (ydZy yfcy) (by kernel_rfl) yBvy (cuts0 (fun _=>rfl) (by kernel_rfl)) (fun ps R K=>by unfold ydZy; split <;> (try unfold z37z_L14) <;> rfl) (yDiy yfcy)
theorem yMBy (g:C_z37z):Same (yony (@z37z_ g)) (abody (yjRy g) Tryz.f179 yqby 4 [] [.asis] g.N):=by intro args; unfold yony; split; exact .inr fun R k=>(by kernel_rfl); exact .inl fun R k=>rfl
theorem yKSy [Fuel]:Ok 179 (yony (@z37z _)):=yaay std (.cons ymdy (.cons yzny .nil)) ⟨rfl,rfl,by kernel_rfl,rfl,rfl,rfl⟩ (yMBy yfcy) (cutsL (fun _=>rfl) (.cons yDBy (.cons yzoy .nil)) (by kernel_rfl)) Tryz.func179 (by kernel_rfl) (by kernel_rfl)
abbrev yw7y:Type 1:=List G_Deed→Int→{R:Type}→(Int→Option R)→Option R
structure C_z94z where
 N:Nat
 z62z:yhpy
 z37z:yyhy
def z94z_ (g:C_z94z) (a1:List G_Deed) (a2:Int) {R:Type} (k0:Int→Option R):Option R :=
 (g.z37z a1 (fun r3=>(bif (r3 != 0) then k0 r3 else (g.z62z a2 (fun r4=>(bif (!r4) then k0 1 else k0 0))))))
noncomputable def yFCy [Fuel]:C_z94z:=⟨NN,@z62z _,@z37z _⟩
noncomputable def z94z [Fuel]:yw7y:=@z94z_ yFCy
def yn8y (g:yw7y):Spec A:=fun args=>match args with | [.d (.sl 93 a1),.d (.int .i64 a2)]=>fun k=>g a1 a2 (fun z0=>k (.d (.int .i64 z0)) [.undef,.undef]) | _=>fun _=>none
noncomputable def yGAy:Code:=(Tryz.f135.body).getD .skip
noncomputable def yN1y (g:C_z94z):Env A:=mkE [(74,ydKy g.z62z),(179,yony g.z37z)] [] [] [] [] [] [] [] [] []
theorem yIVy (g:C_z94z):Same (yn8y (@z94z_ g)) (abody (yN1y g) Tryz.f135 yGAy 0 [] [.asis] g.N):=by intro args; unfold yn8y; split; exact .inr fun R k=>(by kernel_rfl); exact .inl fun R k=>rfl
theorem yLHy [Fuel]:Ok 135 (yn8y (@z94z _)):=yaay std (.cons ygdy (.cons yKSy .nil)) ⟨rfl,rfl,by kernel_rfl,rfl,rfl,rfl⟩ (yIVy yFCy) (cuts0 (fun _=>rfl) (by kernel_rfl)) Tryz.func135 (by kernel_rfl) (by kernel_rfl)
abbrev ywXy:Type 1:=List G_Deed→{R:Type}→(List G_Deed→Option R)→Option R
def z86z_ (g:Nat) (a1:List G_Deed) {R:Type} (k0:List G_Deed→Option R):Option R :=
 k0 a1
noncomputable def z86z [Fuel]:ywXy:=@z86z_ NN
def yoMy (g:ywXy):Spec A:=fun args=>match args with | [.d (.sl 93 a1)]=>fun k=>g a1 (fun z0=>k (.fn 238 [.box [.d (.sl 93 z0)]]) [.undef]) | _=>fun _=>none
noncomputable def yG7y:Code:=(Tryz.f216.body).getD .skip
noncomputable def yNFy (g:Nat):Env A:=mkE [] [(1,[0])] [] [] [] [] [] [] [] []
theorem yKxy (g:Nat):Same (yoMy (@z86z_ g)) (abody (yNFy g) Tryz.f216 yG7y 1 [] [.asis] g):=by intro args; unfold yoMy; split; exact .inr fun R k=>(by kernel_rfl); exact .inl fun R k=>rfl
theorem yB1y [Fuel]:Ok 216 (yoMy (@z86z _)):=yaay std .nil ⟨rfl,rfl,by kernel_rfl,rfl,rfl,rfl⟩ (yKxy NN) (cuts0 (fun _=>rfl) (by kernel_rfl)) Tryz.func216 (by kernel_rfl) (by kernel_rfl)
abbrev ywwy:Type 1:=List G_Deed→Int→{R:Type}→(List Int→Option R)→Option R
structure C_z24z where
 N:Nat
 z48z:ysjy
 z86z:ywXy
def z24z_L6 (g:C_z24z):Nat→List G_Deed→Int→List (G_net_own×Bool)→List Int→{R:Type}→(Int→List (G_net_own×Bool)→List Int→Option R)→Option R
 | 0,y0,y1,y2,y3,_,e0=>e0 y1 y2 y3
 | n + 1,l7,v4,v5,v6,_,e0=>(match l7[n]? with | none=>none | some x8=>(bif (decide (x8.f_At > v4)) then z24z_L6 g n l7 v4 v5 v6 e0 else (bif ((yb2y (⟨x8.f_Site,x8.f_No⟩:G_net_own) v5).getD false) then z24z_L6 g n l7 v4 v5 v6 e0 else (bif (decide ((v6.length + [(n:Int)].length) * 8≤yaly)) then (bif (x8.f_Kind == 5) then z24z_L6 g n l7 v4 (ya9y (⟨x8.f_Of,x8.f_Other⟩:G_net_own) true v5) (v6 ++ [(n:Int)]) e0 else z24z_L6 g n l7 v4 v5 (v6 ++ [(n:Int)]) e0) else none))))
noncomputable def ykQy (g:C_z24z) (a1:List G_Deed) (a2:Int) {R:Type} (k0:List Int→Option R):Option R :=
 (g.z86z a1 (fun r3=>(bif decide (r3.length < 4611686018427387904) then (z24z_L6 g r3.length r3 a2 [] [] (fun e9 e10 e11=>(g.z48z e11 (fun r12=>k0 r12)))) else none)))
def yngy (p:IV A×List (IV A)):Option ((List Int)):=match p with | (.arr 3 b1,[.undef,.undef])=>some (b1) | _=>none
def yeEy (q:(List Int)):IV A×List (IV A):=(.arr 3 q,[.undef,.undef])
theorem yGHy (p:IV A×List (IV A)) (q:(List Int)) (h:yngy p = some q):p = yeEy q:=by unfold yngy at h; split at h; (cases h; rfl); cases h
noncomputable def z24z_ (g:C_z24z) (a1:List G_Deed) (a2:Int) {R:Type} (k0:List Int→Option R):Option R :=
 (ykQy g a1 a2 (fun z0=>some (yeEy (z0)))).bind fun p=>(decK yngy p (fun q=>k0 q) none)
noncomputable def ydny [Fuel]:C_z24z:=⟨NN,@z48z _,@z86z _⟩
noncomputable def z24z [Fuel]:ywwy:=@z24z_ ydny
def ydOy (g:ywwy):Spec A:=fun args=>match args with | [.d (.sl 93 a1),.d (.int .i64 a2)]=>fun k=>g a1 a2 (fun z0=>k (.arr 3 z0) [.undef,.undef]) | _=>fun _=>none
def yhBy:SSt:=mkSh 43 9 [(3,.ptr 0 0),(5,.ptr 2 0),(6,.ptr 3 0)] [(0,.box [.int .i64]),(1,.mp 225 4),(2,.box [.mp 1]),(3,.box [.own 3 5]),(5,.row 3)]
abbrev ycqy:Bw:=⟨238,94,93,3,4⟩
def ydLy (g:C_z24z) (n:Nat) (l:List (A (ycqy).tE)):LPT A:=fun ps=>match ps with | [.d (.int .i64 p1),.mp 225 4 p2,.d (.sl 3 p3)]=>fun K=>z24z_L6 g n l p1 p2 p3 (fun z0 z1 z2=>K .normal (mkSt 43 9 [(3,.ptr 0 0),(5,.ptr 2 0),(6,.ptr 3 0)] [(0,some (.box [.d (.int .i64 z0)])),(1,some (.mp 225 4 z1)),(2,some (.box [.mp 1])),(3,some (.box [.own 3 5])),(5,some (.row 3 z2))])) | _=>fun _=>none
noncomputable def ywWy:Code:=(Tryz.f180.body).getD .skip
noncomputable def yrSy (g:C_z24z):Env A:=mkE [(78,yjQy g.z48z),(216,yoMy g.z86z)] [(3,[0]),(5,[2]),(6,[3]),(8,[6]),(9,[1]),(11,[4]),(29,[7]),(30,[8])] [(6,⟨[3,5,6],[],[0,1,2,3],[(3,0,3,5)],[],[],[]⟩)] [(6,⟨[3,5,6],[],[0,1,2,3],[],[],[],[]⟩)] [] [] [] [] [(78,0)] []
noncomputable def yANy (g:C_z24z):Nat→Option (Nat→ybLy A (ycqy).tE):=fun i=>List.lookup i [(0,ywIy (ycqy).tE yhBy (ydLy g))]
def ytwy:Nat→List Nat:=fun i=>(List.lookup i [(0,[3,5,6])]).getD []
theorem ct_z24z [Fuel]:yahy (yrSy ydny).C:=ct_of (P:=Tryz.prog) (T:=T) (.cons ynXy (.cons yB1y .nil)) (by kernel_rfl)
noncomputable def yz0y:BwP:=(bwP Tryz.f238.body).get (by kernel_rfl)
theorem yzMy:BwFine Tryz.prog T ycqy:=⟨yBzy (fn:=Tryz.f238) Tryz.func238 yz0y (by kernel_rfl) (by kernel_rfl) (by kernel_rfl) (by kernel_rfl) (by kernel_rfl) (by kernel_rfl) (by kernel_rfl) (by kernel_rfl) (by kernel_rfl),yaOy (fn:=Tryz.f238) Tryz.func238 (by kernel_rfl) (by kernel_rfl),by kernel_rfl,by kernel_rfl,fun x=>by kernel_rfl⟩
noncomputable def ykIy:RfP:=(rfOf (sub [1,1,1,0] ywWy)).get (by kernel_rfl)
theorem yFNy (g:C_z24z):ytyy (ycqy).tE yhBy (ydLy g):=by intro xs ps; unfold ydLy; split; exact .inr fun R K=>(by kernel_rfl); exact .inl fun R K=>rfl
theorem yExy (g:C_z24z) (i:Nat):ytey (yrSy g) g.N (ytwy (ykIy).B) ykIy (ycqy).tE yhBy (ydLy g) i:=by intro xs ps; unfold ydLy; split; exact .inr fun R K=>(by kernel_rfl); exact .inl fun R K=>rfl
theorem yDoy [Fuel]:BOk (yrSy ydny) ycqy (yANy ydny) ytwy NN ykIy:=ytYy yhBy (ydLy ydny) (by kernel_rfl) (cuts0 (fun _=>rfl) (by kernel_rfl)) (cuts0 (fun _=>rfl) (by kernel_rfl)) (yFNy ydny) (yExy ydny)
theorem yJMy (g:C_z24z):Same (ydOy (@ykQy g)) (ykjy (yrSy g) ycqy (yANy g) ytwy Tryz.f180 ywWy 9 [] [.arr 3] g.N):=by intro args; unfold ydOy; split; exact .inr fun R k=>(by kernel_rfl); exact .inl fun R k=>rfl
theorem yKWy (g:C_z24z):Whole (ydOy (@z24z_ g)) (ydOy (@ykQy g)):=by
 intro args R k res h
 unfold ydOy at h
 split at h
 ·obtain ⟨p,hp,h⟩:=Option.bind_eq_some_iff.1 h
  exact ⟨p,hp,(ytAy (inj:=yeEy) yGHy (fun h=>(by cases h)) h)⟩
 ·cases h
theorem yKhy (g:C_z24z):yaDy (ydOy (@z24z_ g)):=by
 intro args R k
 unfold ydOy
 split
 ·unfold z24z_
  rw [Option.bind_assoc]
  exact congrArg (Option.bind _) (funext fun p=>(ytdy (inj:=yeEy) rfl))
 ·rfl
theorem yBsy [Fuel]:Ok 180 (ydOy (@z24z _)):=yEOy std (.cons ynXy (.cons yB1y .nil)) ⟨rfl,rfl,by kernel_rfl,rfl,rfl,rfl⟩ yzMy (yJMy ydny) (yKWy ydny) (yKhy ydny) (cutsB (fun _=>rfl) .nil (.cons yDoy .nil) (by kernel_rfl) (by kernel_rfl)) Tryz.func180 (by kernel_rfl) (by kernel_rfl)
abbrev ynsy:Type 1:=G_Contact→{R:Type}→(G_Contact→Option R)→Option R
def ywDy (g:Nat) (a1:G_Contact) {R:Type} (k0:G_Contact→Option R):Option R :=
 k0 (⟨a1.f_At,a1.f_Mode,a1.f_Band,a1.f_Call,0,0,[],[]⟩:G_Contact)
noncomputable def net_key [Fuel]:ynsy:=@ywDy NN
def yhJy (g:ynsy):Spec A:=fun args=>match args with | [.agg [.d (.int .i64 a1),.d (.int .i64 a2),.d (.str a3),.d (.str a4),.d (.int .i64 a5),.d (.int .i64 a6),.d (.str a7),.d (.str a8)]]=>fun k=>g ⟨a1,a2,a3,a4,a5,a6,a7,a8⟩ (fun z0=>k (.agg [.d (.int .i64 z0.f_At),.d (.int .i64 z0.f_Mode),.d (.str z0.f_Band),.d (.str z0.f_Call),.d (.int .i64 z0.f_Sent),.d (.int .i64 z0.f_Heard),.d (.str z0.f_Gave),.d (.str z0.f_Got)]) [.undef]) | _=>fun _=>none
noncomputable def yHNy:Code:=(Tryz.f181.body).getD .skip
noncomputable def yF4y (g:Nat):Env A:=mkE [] [(1,[0]),(2,[1])] [] [] [] [] [] [] [] []
theorem yDKy (g:Nat):Same (yhJy (@ywDy g)) (abody (yF4y g) Tryz.f181 yHNy 2 [] [.asis] g):=by intro args; unfold yhJy; split; exact .inr fun R k=>(by kernel_rfl); exact .inl fun R k=>rfl
theorem yq2y [Fuel]:Ok 181 (yhJy (@net_key _)):=yaay std .nil ⟨rfl,rfl,by kernel_rfl,rfl,rfl,rfl⟩ (yDKy NN) (cuts0 (fun _=>rfl) (by kernel_rfl)) Tryz.func181 (by kernel_rfl) (by kernel_rfl)
abbrev yx6y:Type 1:=List G_Contact→{R:Type}→(List G_Contact→Option R)→Option R
noncomputable def z50z [Fuel]:yx6y:=@ybUy G_Contact (@z61z _)
def ykdy (g:yx6y):Spec A:=fun args=>match args with | [.arr 38 a1,.fn 73 []]=>fun k=>g a1 (fun z=>k (.tup []) [.arr 38 z,.fn 73 []]) | _=>fun _=>none
theorem yBgy [Fuel] (xs:List (A 38)) (R:Type) (k:IV A→List (IV A)→Option R):ykdy (@z50z _) [.arr 38 xs,.fn 73 []] k = ybUy (α:=A 38) (@z61z _) xs (fun z=>k (.tup []) [.arr 38 z,.fn 73 []]):=by kernel_rfl
theorem yALy [Fuel] (args:List (IV A)) (R:Type) (k:IV A→List (IV A)→Option R) (h:∀ xs:List (A 38),args ≠ [.arr 38 xs,.fn 73 []]):ykdy (@z50z _) args k = none:=by unfold ykdy; split; exact absurd rfl (h _); rfl
theorem yIXy [Fuel] (x y:A 38) (R:Type) (k:Int→Option R):ynpy T (yeKy (@z61z _)) 38 x y k = @z61z _ x y R k:=by kernel_rfl
theorem yIRy (x:G_Contact):(ynSy x).all scal = true:=rfl
theorem yAPy [Fuel]:Ok 182 (ykdy (@z50z _)):=⟨yjky (tyOk Tryz.prog) (e:=38) Tryz.sortf182 Tryz.isAgg38 Tryz.sizeOf38 (fun x d hd=>List.all_eq_true.1 (yIRy x) d hd) yIXy yxFy.fs yxFy.en yBgy yALy,yp8y (e:=38) yBgy yALy,yaOy (fn:=Tryz.f182) Tryz.func182 (by kernel_rfl) (by kernel_rfl)⟩
end Go.Am
