/- The functions of the program as Lean functions, each shown to be what the code computes, part 8. No condition: lemmas for the claim. -/
import Derived.Test.YtphcgliehecbkaaGreatDoorF0
import Derived.Test.YtphcgliehecbkaaGreatDoorFSh
import Derived.Test.YtphcgliehecbkaaGreatDoorF1
import Derived.Test.YtphcgliehecbkaaGreatDoorF4
import Derived.Test.YtphcgliehecbkaaGreatDoorF5
import Derived.Test.YtphcgliehecbkaaGreatDoorF6
import Derived.Test.YtphcgliehecbkaaGreatDoorF7
set_option linter.unusedVariables false
set_option maxRecDepth 100000
namespace Go.Am
open Go Go.Proofs
abbrev yhZy:Type 1:=List G_Deed→Int→{R:Type}→(List G_Desk→Int→Option R)→Option R
structure C_net_Desks where
 N:Nat
 z51z:yley
 z3z:T_z3z
 z47z:yuny
def ydgy (g:C_net_Desks) (a1:List G_Deed) (a2:Int) {R:Type} (k0:List G_Desk→Int→Option R):Option R :=
 (g.z51z a1 a2 (fun r3=>(bif (r3 != 0) then k0 [] r3 else (g.z47z))) (fun r4 r5 r6 r7 r8 r9=>(bif (r9 != 0) then k0 [] r9 else (g.z3z r4 r5 r6 r7 r8 (fun r10 r11 r12 r13 r14 r15=>k0 r10 0)))))
noncomputable def ycby [Fuel]:C_net_Desks:=⟨NN,@z51z _,@z3z _,@z47z _⟩
noncomputable def net_Desks [Fuel]:yhZy:=@ydgy ycby
def yePy (g:yhZy):Spec A:=fun args=>match args with | [.d (.sl 35 a1),.d (.int .i64 a2)]=>fun k=>g a1 a2 (fun z0 z1=>k (.tup [.arr 46 z0,.d (.int .i64 z1)]) [.undef,.undef]) | _=>fun _=>none
noncomputable def yEry:Code:=(Tryz.f11.body).getD .skip
noncomputable def yvRy (g:C_net_Desks):Env A:=mkE [(35,ygSy g.z51z),(36,orS p_z3z (ypUy g.z3z) (ymfy g.z47z))] [(11,[0,1,2,3,4,5]),(18,[6,7,8,9,10,11])] [] [] [] [] [] [] [] []
theorem yuUy (g:C_net_Desks):Same (yePy (@ydgy g)) (abody (yvRy g) Tryz.f11 yEry 12 [] [.arr 46,.asis] g.N):=by intro args; unfold yePy; split; exact .inr fun R k=>(by kernel_rfl); exact .inl fun R k=>rfl
theorem yvsy [Fuel]:Ok 11 (yePy (@net_Desks _)):=yacy std (.cons yqxy (.cons (ok_or p_z3z yJwy yGIy) .nil)) ⟨rfl,rfl,by kernel_rfl,rfl,rfl,rfl⟩ (yuUy ycby) (cuts0 (fun _=>rfl) (by kernel_rfl)) Tryz.func11 (by kernel_rfl) (by kernel_rfl)
abbrev ysUy:Type 1:=List G_Desk→{R:Type}→(List G_Desk→Option R)→Option R
def z49z_L2 (g:Nat):Nat→Int→Int→List G_Desk→G_Desk→{R:Type}→(List G_Desk→Option R)→Option R
 | 0,_,_,_,_,_,_=>none
 | n + 1,v2,v3,v4,v5,_,e0=>(bif (decide (v3 < v2)) then (inr v4 v3 (at_ v4 v3 fun x7=>z49z_L2 g n v2 (w64 (v3 + 1)) (set_ v4 v3 v5) v5 e0)) else e0 v4)
def z49z_ (g:Nat) (a1:List G_Desk) {R:Type} (k0:List G_Desk→Option R):Option R :=
 (z49z_L2 g g (a1.length:Int) 0 a1 (⟨[],[],0⟩:G_Desk) (fun e8=>k0 e8))
noncomputable def z49z [Fuel]:ysUy:=@z49z_ NN
def ymFy (g:ysUy):Spec A:=fun args=>match args with | [.arr 46 a1]=>fun k=>g a1 (fun z0=>k (.tup []) [.arr 46 z0]) | _=>fun _=>none
def yjgy:SSt:=mkSh 14 2 [(0,.own 46 0),(2,.ptr 1 0),(5,.int .i64),(6,.int .i64)] [(0,.row 46),(1,.box [.str,.str,.int .i64])]
def yely (g:Nat) (n:Nat):LPT A:=fun ps=>match ps with | [.d (.int .i64 p1),.d (.int .i64 p2),.d (.sl 46 p3),.d (.str p4),.d (.str p5),.d (.int .i64 p6)]=>fun K=>z49z_L2 g n p1 p2 p3 ⟨p4,p5,p6⟩ (fun z0=>K (.exit 0) (mkSt 14 2 [(0,.own 46 0)] [(0,some (.row 46 z0))])) | _=>fun _=>none
noncomputable def yw3y:Code:=(Tryz.f12.body).getD .skip
noncomputable def yp5y (g:Nat):Env A:=mkE [] [(2,[1])] [(2,⟨[0,2,5,6],[],[0,1],[],[],[],[]⟩)] [(2,⟨[0],[],[0],[],[],[],[]⟩)] [(2,yaiy yjgy (yely g g))] [] [] [] [] [0]
theorem yHly [Fuel]:yajy (yp5y NN).C:=ct_of (P:=Tryz.prog) (T:=T) .nil (by kernel_rfl)
noncomputable def ypmy:Code:=sub [1,1,0,0] yw3y
theorem yBjy (g:Nat) (n:Nat):yamy (yp5y g) g ypmy yjgy (yely g) n:=by intro ps; unfold yely; split; exact .inr fun R K=>(by kernel_rfl); exact .inl fun R K=>rfl
theorem yyTy [Fuel]:yagy (yp5y NN) NN ypmy:=yaky yjgy (yely NN) (by kernel_rfl) yHly (cuts0 (fun _=>rfl) (by kernel_rfl)) (fun ps R K=>by unfold yely; split <;> (try unfold z49z_L2) <;> rfl) (yBjy NN)
theorem yFay (g:Nat):Same (ymFy (@z49z_ g)) (abody (yp5y g) Tryz.f12 yw3y 2 [0] [] g):=by intro args; unfold ymFy; split; exact .inr fun R k=>(by kernel_rfl); exact .inl fun R k=>rfl
theorem yGHy [Fuel]:Ok 12 (ymFy (@z49z _)):=yacy std .nil ⟨rfl,rfl,by kernel_rfl,rfl,rfl,rfl⟩ (yFay NN) (cutsL (fun _=>rfl) (.cons yyTy .nil) (by kernel_rfl)) Tryz.func12 (by kernel_rfl) (by kernel_rfl)
abbrev yuiy:Type 1:=List G_Deed→{R:Type}→(List G_Deed→Option R)→Option R
def z72z [Fuel]:yuiy:=@yfpy G_Deed 176
def yiGy (g:yuiy):Spec A:=fun args=>match args with | [.d (.sl 35 x1)]=>fun k=>g x1 (fun z=>k (.arr 35 z) [.undef]) | _=>fun _=>none
theorem yyay [Fuel] (xs:List (A 35)) (R:Type) (k:IV A→List (IV A)→Option R):yiGy (@z72z _) [.d (.sl 35 xs)] k = yfpy 176 xs (fun z=>k (.arr 35 z) [.undef]):=by kernel_rfl
theorem ywTy [Fuel] (args:List (IV A)) (R:Type) (k:IV A→List (IV A)→Option R) (h:∀ xs:List (A 35),args ≠ [.d (.sl 35 xs)]):yiGy (@z72z _) args k = none:=by unfold yiGy; split; exact absurd rfl (h _); rfl
theorem yxvy [Fuel]:Ok 20 (yiGy (@z72z _)):=⟨yCEy (yvZy rfl (tyOk Tryz.prog) (e:=35) (size:=15) (bytes:=176) (ty:=35) (by kernel_rfl) (fun n c w=>AnyE.slices_Clone_nil Tryz.clone20 n c w) (fun b off n c news w h1 h2 h3 h4 h5=>AnyE.slices_Clone Tryz.clone20 Tryz.ti35 Tryz.zv35 15 176 (by kernel_rfl) (by kernel_rfl) (by kernel_rfl) (by kernel_rfl) (by kernel_rfl) (by decide) Tryz.sizeOf35 b off n c news w h1 h2 h3 h4 h5)) yyay ywTy,yC5y yyay ywTy,yaHy (fn:=Tryz.f20) Tryz.func20 (by kernel_rfl) (by kernel_rfl)⟩
abbrev yicy:Type 1:=List G_Deed→G_Deed→{R:Type}→(List G_Deed→Int→Option R)→Option R
structure C_net_Write where
 N:Nat
 z72z:yuiy
 z11z:ykIy
 z35z:ypGy
 net_formed:yepy
def ybuy (g:C_net_Write):Nat→List G_Deed→List G_Deed→Int→Int→G_Deed→{R:Type}→(List G_Deed→G_Deed→Option R)→Option R
 | 0,_,_,_,_,_,_,_=>none
 | n + 1,v4,v5,v6,v7,v8,_,e0=>(bif (decide (v7 < v6)) then (get_ v5 v7 fun x10=>(bif (x10.f_Site == v8.f_Site) then ybuy g n v4 v5 v6 (w64 (v7 + 1)) (⟨v8.f_Site,(if x10.f_No > v8.f_No then x10.f_No else v8.f_No),v8.f_At,v8.f_Kind,v8.f_Contact,v8.f_Band,v8.f_Of,v8.f_Other⟩:G_Deed) e0 else ybuy g n v4 v5 v6 (w64 (v7 + 1)) v8 e0)) else e0 v4 v8)
def ygyy (g:C_net_Write) (a1:List G_Deed) (a2:G_Deed) {R:Type} (k0:List G_Deed→Int→Option R):Option R :=
 (g.z11z a1 (fun r3=>(bif (r3 != 0) then k0 [] r3 else (bif (a2.f_No != 0) then k0 [] 3 else (ybuy g g.N a1 a1 (a1.length:Int) 0 a2 (fun e11 e12=>(g.net_formed (⟨e12.f_Site,(w64 (e12.f_No + 1)),e12.f_At,e12.f_Kind,e12.f_Contact,e12.f_Band,e12.f_Of,e12.f_Other⟩:G_Deed) (fun r13=>(bif (r13 != 0) then k0 [] r13 else (bif (decide ((e11.length:Int) > 0)) then (get_ e11 (w64 ((e11.length:Int) - 1)) fun x14=>(g.z35z x14 (⟨e12.f_Site,(w64 (e12.f_No + 1)),e12.f_At,e12.f_Kind,e12.f_Contact,e12.f_Band,e12.f_Of,e12.f_Other⟩:G_Deed) (fun r15=>(bif (decide (r15 ≥ 0)) then k0 [] 7 else (bif (decide ((e11.length:Int) ≥ 2000)) then k0 [] 2 else (g.z72z e11 (fun r16=>(bif (decide ((r16.length + [(⟨e12.f_Site,(w64 (e12.f_No + 1)),e12.f_At,e12.f_Kind,e12.f_Contact,e12.f_Band,e12.f_Of,e12.f_Other⟩:G_Deed)].length) * 176≤yady)) then k0 (r16 ++ [(⟨e12.f_Site,(w64 (e12.f_No + 1)),e12.f_At,e12.f_Kind,e12.f_Contact,e12.f_Band,e12.f_Of,e12.f_Other⟩:G_Deed)]) 0 else none)))))))) else (bif (decide ((e11.length:Int) ≥ 2000)) then k0 [] 2 else (g.z72z e11 (fun r17=>(bif (decide ((r17.length + [(⟨e12.f_Site,(w64 (e12.f_No + 1)),e12.f_At,e12.f_Kind,e12.f_Contact,e12.f_Band,e12.f_Of,e12.f_Other⟩:G_Deed)].length) * 176≤yady)) then k0 (r17 ++ [(⟨e12.f_Site,(w64 (e12.f_No + 1)),e12.f_At,e12.f_Kind,e12.f_Contact,e12.f_Band,e12.f_Of,e12.f_Other⟩:G_Deed)]) 0 else none))))))))))))))
noncomputable def yaTy [Fuel]:C_net_Write:=⟨NN,@z72z _,@z11z _,@z35z _,@net_formed _⟩
noncomputable def net_Write [Fuel]:yicy:=@ygyy yaTy
def ye9y (g:yicy):Spec A:=fun args=>match args with | [.d (.sl 35 a1),.agg [.d (.str a2),.d (.int .i64 a3),.d (.int .i64 a4),.d (.int .i64 a5),.d (.int .i64 a6),.d (.int .i64 a7),.d (.str a8),.d (.str a9),.d (.int .i64 a10),.d (.int .i64 a11),.d (.str a12),.d (.str a13),.d (.str a14),.d (.str a15),.d (.int .i64 a16)]]=>fun k=>g a1 ⟨a2,a3,a4,a5,⟨a6,a7,a8,a9,a10,a11,a12,a13⟩,a14,a15,a16⟩ (fun z0 z1=>k (.tup [.arr 35 z0,.d (.int .i64 z1)]) [.undef,.undef]) | _=>fun _=>none
def yfcy:SSt:=mkSh 68 5 [(0,.sl 35),(3,.ptr 0 0),(19,.sl 35),(20,.int .i64),(21,.int .i64)] [(0,.box [.str,.int .i64,.int .i64,.int .i64,.int .i64,.int .i64,.str,.str,.int .i64,.int .i64,.str,.str,.str,.str,.int .i64])]
def yb5y (g:C_net_Write) (n:Nat):LPT A:=fun ps=>match ps with | [.d (.sl 35 p1),.d (.sl 35 p2),.d (.int .i64 p3),.d (.int .i64 p4),.d (.str p5),.d (.int .i64 p6),.d (.int .i64 p7),.d (.int .i64 p8),.d (.int .i64 p9),.d (.int .i64 p10),.d (.str p11),.d (.str p12),.d (.int .i64 p13),.d (.int .i64 p14),.d (.str p15),.d (.str p16),.d (.str p17),.d (.str p18),.d (.int .i64 p19)]=>fun K=>ybuy g n p1 p2 p3 p4 ⟨p5,p6,p7,p8,⟨p9,p10,p11,p12,p13,p14,p15,p16⟩,p17,p18,p19⟩ (fun z0 z1=>K (.exit 0) (mkSt 68 5 [(0,.d (.sl 35 z0)),(3,.ptr 0 0)] [(0,some (.box [.d (.str z1.f_Site),.d (.int .i64 z1.f_No),.d (.int .i64 z1.f_At),.d (.int .i64 z1.f_Kind),.d (.int .i64 z1.f_Contact.f_At),.d (.int .i64 z1.f_Contact.f_Mode),.d (.str z1.f_Contact.f_Band),.d (.str z1.f_Contact.f_Call),.d (.int .i64 z1.f_Contact.f_Sent),.d (.int .i64 z1.f_Contact.f_Heard),.d (.str z1.f_Contact.f_Gave),.d (.str z1.f_Contact.f_Got),.d (.str z1.f_Band),.d (.str z1.f_Of),.d (.int .i64 z1.f_Other)]))])) | _=>fun _=>none
noncomputable def yxVy:Code:=(Tryz.f13.body).getD .skip
noncomputable def yfPy (g:C_net_Write):Env A:=mkE [(20,yiGy g.z72z),(28,ygJy g.z11z),(34,ydky g.z35z),(37,ycxy g.net_formed)] [(3,[0]),(8,[1]),(64,[3]),(66,[2]),(67,[4])] [(7,⟨[0,3,19,20,21],[],[0],[],[],[],[]⟩)] [(7,⟨[0,3],[],[0],[],[],[],[]⟩)] [(7,yaiy yfcy (yb5y g g.N))] [] [] [] [] []
theorem ys6y [Fuel]:yajy (yfPy yaTy).C:=ct_of (P:=Tryz.prog) (T:=T) (.cons yxvy (.cons yi2y (.cons yl0y (.cons ydQy .nil)))) (by kernel_rfl)
noncomputable def yhAy:Code:=sub [1,1,1,0,1,0,0] yxVy
theorem yqOy (g:C_net_Write) (n:Nat):yamy (yfPy g) g.N yhAy yfcy (yb5y g) n:=by intro ps; unfold yb5y; split; exact .inr fun R K=>(by kernel_rfl); exact .inl fun R K=>rfl
theorem ypAy [Fuel]:yagy (yfPy yaTy) NN yhAy:=yaky yfcy (yb5y yaTy) (by kernel_rfl) ys6y (cuts0 (fun _=>rfl) (by kernel_rfl)) (fun ps R K=>by unfold yb5y; split <;> (try unfold ybuy) <;> rfl) (yqOy yaTy)
theorem ytdy (g:C_net_Write):Same (ye9y (@ygyy g)) (abody (yfPy g) Tryz.f13 yxVy 5 [] [.arr 35,.asis] g.N):=by intro args; unfold ye9y; split; exact .inr fun R k=>(by kernel_rfl); exact .inl fun R k=>rfl
theorem yujy [Fuel]:Ok 13 (ye9y (@net_Write _)):=yacy std (.cons yxvy (.cons yi2y (.cons yl0y (.cons ydQy .nil)))) ⟨rfl,rfl,by kernel_rfl,rfl,rfl,rfl⟩ (ytdy yaTy) (cutsL (fun _=>rfl) (.cons ypAy .nil) (by kernel_rfl)) Tryz.func13 (by kernel_rfl) (by kernel_rfl)
abbrev ytAy:Type 1:=List G_Deed→List G_Deed→{R:Type}→(Bool→Option R)→Option R
def z40z_L4 (g:Nat):Nat→List G_Deed→List G_Deed→Int→Int→{R:Type}→(Bool→Option R)→Option R→Option R
 | 0,_,_,_,_,_,_,_=>none
 | n + 1,v3,v4,v5,v6,_,e0,e1=>(bif (decide (v6 < v5)) then (get_ v3 v6 fun x9=>(get_ v4 v6 fun x10=>(bif (!(yaUy x9 x10)) then e0 false else z40z_L4 g n v3 v4 v5 (w64 (v6 + 1)) e0 e1))) else e1)
def z40z_ (g:Nat) (a1 a2:List G_Deed) {R:Type} (k0:Bool→Option R):Option R :=
 (bif ((a1.length:Int) != (a2.length:Int)) then k0 false else (z40z_L4 g g a1 a2 (a1.length:Int) 0 (fun e11=>k0 e11) (k0 true)))
noncomputable def z40z [Fuel]:ytAy:=@z40z_ NN
def ymAy (g:ytAy):Spec A:=fun args=>match args with | [.d (.sl 35 a1),.d (.sl 35 a2)]=>fun k=>g a1 a2 (fun z0=>k (.d (.bool z0)) [.undef,.undef]) | _=>fun _=>none
def yjiy:SSt:=mkSh 26 0 [(0,.sl 35),(1,.sl 35),(12,.int .i64),(13,.int .i64)] []
def ye0y (g:Nat) (n:Nat):LPT A:=fun ps=>match ps with | [.d (.sl 35 p1),.d (.sl 35 p2),.d (.int .i64 p3),.d (.int .i64 p4)]=>fun K=>z40z_L4 g n p1 p2 p3 p4 (fun z0=>K .ret (mkSt 26 0 [(4,.d (.bool z0))] [])) (K (.exit 0) (mkSt 26 0 [] [])) | _=>fun _=>none
noncomputable def yxGy:Code:=(Tryz.f14.body).getD .skip
noncomputable def yn7y (g:Nat):Env A:=mkE [] [] [(4,⟨[0,1,12,13],[],[],[],[],[],[]⟩)] [(4,⟨[4],[],[],[],[],[],[]⟩)] [(4,yaiy yjiy (ye0y g g))] [] [] [] [] []
theorem yGiy [Fuel]:yajy (yn7y NN).C:=ct_of (P:=Tryz.prog) (T:=T) .nil (by kernel_rfl)
noncomputable def yp3y:Code:=sub [1,1,0,1,0,0] yxGy
theorem yz4y (g:Nat) (n:Nat):yamy (yn7y g) g yp3y yjiy (ye0y g) n:=by intro ps; unfold ye0y; split; exact .inr fun R K=>(by kernel_rfl); exact .inl fun R K=>rfl
theorem yyoy [Fuel]:yagy (yn7y NN) NN yp3y:=yaky yjiy (ye0y NN) (by kernel_rfl) yGiy (cuts0 (fun _=>rfl) (by kernel_rfl)) (fun ps R K=>by unfold ye0y; split <;> (try unfold z40z_L4) <;> rfl) (yz4y NN)
theorem yE8y (g:Nat):Same (ymAy (@z40z_ g)) (abody (yn7y g) Tryz.f14 yxGy 0 [] [.asis] g):=by intro args; unfold ymAy; split; exact .inr fun R k=>(by kernel_rfl); exact .inl fun R k=>rfl
theorem yETy [Fuel]:Ok 14 (ymAy (@z40z _)):=yacy std .nil ⟨rfl,rfl,by kernel_rfl,rfl,rfl,rfl⟩ (yE8y NN) (cutsL (fun _=>rfl) (.cons yyoy .nil) (by kernel_rfl)) Tryz.func14 (by kernel_rfl) (by kernel_rfl)
abbrev yssy:Type 1:=List G_Contact→{R:Type}→(Int→Option R)→Option R
structure C_z53z where
 N:Nat
 z41z:yspy
 z59z:yoly
def z53z_L4 (g:C_z53z):Nat→List G_Contact→List G_Contact→Int→Int→{R:Type}→(Int→Option R)→Option R→Option R
 | 0,_,_,_,_,_,_,_=>none
 | n + 1,v2,v3,v4,v5,_,e0,e1=>(bif (decide (v5 < v4)) then (get_ v3 v5 fun x10=>(g.z59z x10 (fun r11=>(bif (r11 != 0) then e0 r11 else (bif (decide (v5 > 0)) then (get_ v2 (w64 (v5 - 1)) fun x12=>(g.z41z x12 x10 (fun r13=>(bif (decide (r13 ≥ 0)) then e0 7 else z53z_L4 g n v2 v3 v4 (w64 (v5 + 1)) e0 e1)))) else z53z_L4 g n v2 v3 v4 (w64 (v5 + 1)) e0 e1))))) else e1)
def z53z_ (g:C_z53z) (a1:List G_Contact) {R:Type} (k0:Int→Option R):Option R :=
 (bif (decide ((a1.length:Int) > 2000)) then k0 2 else (z53z_L4 g g.N a1 a1 (a1.length:Int) 0 (fun e14=>k0 e14) (k0 0)))
noncomputable def yiny [Fuel]:C_z53z:=⟨NN,@z41z _,@z59z _⟩
noncomputable def z53z [Fuel]:yssy:=@z53z_ yiny
def ymjy (g:yssy):Spec A:=fun args=>match args with | [.d (.sl 33 a1)]=>fun k=>g a1 (fun z0=>k (.d (.int .i64 z0)) [.undef]) | _=>fun _=>none
def yjTy:SSt:=mkSh 34 1 [(0,.sl 33),(9,.sl 33),(10,.int .i64),(11,.int .i64)] []
def yeBy (g:C_z53z) (n:Nat):LPT A:=fun ps=>match ps with | [.d (.sl 33 p1),.d (.sl 33 p2),.d (.int .i64 p3),.d (.int .i64 p4)]=>fun K=>z53z_L4 g n p1 p2 p3 p4 (fun z0=>K .ret (mkSt 34 1 [(2,.d (.int .i64 z0))] [])) (K (.exit 0) (mkSt 34 1 [] [])) | _=>fun _=>none
noncomputable def yxny:Code:=(Tryz.f73.body).getD .skip
noncomputable def yoUy (g:C_z53z):Env A:=mkE [(106,yd5y g.z41z),(112,yiLy g.z59z)] [(4,[0])] [(4,⟨[0,9,10,11],[],[],[],[],[],[]⟩)] [(4,⟨[2],[],[],[],[],[],[]⟩)] [(4,yaiy yjTy (yeBy g g.N))] [] [] [] [] []
theorem yEgy [Fuel]:yajy (yoUy yiny).C:=ct_of (P:=Tryz.prog) (T:=T) (.cons yxiy (.cons yqNy .nil)) (by kernel_rfl)
noncomputable def ypvy:Code:=sub [1,1,0,1,0,0] yxny
theorem yAEy (g:C_z53z) (n:Nat):yamy (yoUy g) g.N ypvy yjTy (yeBy g) n:=by intro ps; unfold yeBy; split; exact .inr fun R K=>(by kernel_rfl); exact .inl fun R K=>rfl
theorem yzJy [Fuel]:yagy (yoUy yiny) NN ypvy:=yaky yjTy (yeBy yiny) (by kernel_rfl) yEgy (cuts0 (fun _=>rfl) (by kernel_rfl)) (fun ps R K=>by unfold yeBy; split <;> (try unfold z53z_L4) <;> rfl) (yAEy yiny)
theorem yHGy (g:C_z53z):Same (ymjy (@z53z_ g)) (abody (yoUy g) Tryz.f73 yxny 1 [] [.asis] g.N):=by intro args; unfold ymjy; split; exact .inr fun R k=>(by kernel_rfl); exact .inl fun R k=>rfl
theorem yEay [Fuel]:Ok 73 (ymjy (@z53z _)):=yacy std (.cons yxiy (.cons yqNy .nil)) ⟨rfl,rfl,by kernel_rfl,rfl,rfl,rfl⟩ (yHGy yiny) (cutsL (fun _=>rfl) (.cons yzJy .nil) (by kernel_rfl)) Tryz.func73 (by kernel_rfl) (by kernel_rfl)
abbrev yuWy:Type 1:=List UInt8→{R:Type}→(List UInt8→Option R)→Option R
structure C_z86z where
 N:Nat
 call_Parts:yeny
def z86z_ (g:C_z86z) (a1:List UInt8) {R:Type} (k0:List UInt8→Option R):Option R :=
 (g.call_Parts a1 (fun r2 r3=>k0 r2.f_Base))
noncomputable def yA4y [Fuel]:C_z86z:=⟨NN,@call_Parts _⟩
noncomputable def z86z [Fuel]:yuWy:=@z86z_ yA4y
def ymqy (g:yuWy):Spec A:=fun args=>match args with | [.d (.str a1)]=>fun k=>g a1 (fun z0=>k (.d (.str z0)) [.undef]) | _=>fun _=>none
noncomputable def yCqy:Code:=(Tryz.f113.body).getD .skip
noncomputable def yIny (g:C_z86z):Env A:=mkE [(150,ycwy g.call_Parts)] [(3,[0])] [] [] [] [] [] [] [] []
theorem yF1y (g:C_z86z):Same (ymqy (@z86z_ g)) (abody (yIny g) Tryz.f113 yCqy 1 [] [.asis] g.N):=by intro args; unfold ymqy; split; exact .inr fun R k=>(by kernel_rfl); exact .inl fun R k=>rfl
theorem yxxy [Fuel]:Ok 113 (ymqy (@z86z _)):=yacy std (.cons ykly .nil) ⟨rfl,rfl,by kernel_rfl,rfl,rfl,rfl⟩ (yF1y yA4y) (cuts0 (fun _=>rfl) (by kernel_rfl)) Tryz.func113 (by kernel_rfl) (by kernel_rfl)
abbrev yhQy:Type 1:=List G_Contact→{R:Type}→(List Int→Option R)→Option R
structure C_log_dupes where
 N:Nat
 z86z:yuWy
def ycRy (g:C_log_dupes):Nat→List G_Contact→Int→Int→List (G_log_worked×Bool)→List Int→{R:Type}→(List Int→Option R)→Option R
 | 0,_,_,_,_,_,_,_=>none
 | n + 1,v2,v3,v4,v5,v6,_,e0=>(bif (decide (v4 < v3)) then (get_ v2 v4 fun x9=>(g.z86z x9.f_Call (fun r10=>(bif ((ybLy (⟨r10,x9.f_Band,x9.f_Mode⟩:G_log_worked) v5).getD false) then (bif (decide ((v6.length + [v4].length) * 8≤yady)) then ycRy g n v2 v3 (w64 (v4 + 1)) (ybsy (⟨r10,x9.f_Band,x9.f_Mode⟩:G_log_worked) true v5) (v6 ++ [v4]) e0 else none) else ycRy g n v2 v3 (w64 (v4 + 1)) (ybsy (⟨r10,x9.f_Band,x9.f_Mode⟩:G_log_worked) true v5) v6 e0)))) else e0 v6)
def yo7y (g:C_log_dupes) (a1:List G_Contact) {R:Type} (k0:List Int→Option R):Option R :=
 (ycRy g g.N a1 (a1.length:Int) 0 [] [] (fun e11=>k0 e11))
noncomputable def ycFy [Fuel]:C_log_dupes:=⟨NN,@z86z _⟩
noncomputable def log_dupes [Fuel]:yhQy:=@yo7y ycFy
def yeGy (g:yhQy):Spec A:=fun args=>match args with | [.d (.sl 33 a1)]=>fun k=>g a1 (fun z0=>k (.arr 3 z0) [.undef]) | _=>fun _=>none
def ye8y:SSt:=mkSh 35 6 [(3,.mp 0),(4,.own 3 1),(9,.sl 33),(10,.int .i64),(11,.int .i64)] [(0,.mp 160 4),(1,.row 3)]
def yb6y (g:C_log_dupes) (n:Nat):LPT A:=fun ps=>match ps with | [.d (.sl 33 p1),.d (.int .i64 p2),.d (.int .i64 p3),.mp 160 4 p4,.d (.sl 3 p5)]=>fun K=>ycRy g n p1 p2 p3 p4 p5 (fun z0=>K (.exit 0) (mkSt 35 6 [(4,.own 3 1)] [(1,some (.row 3 z0))])) | _=>fun _=>none
noncomputable def yw0y:Code:=(Tryz.f74.body).getD .skip
noncomputable def yfQy (g:C_log_dupes):Env A:=mkE [(113,ymqy g.z86z)] [(6,[2]),(7,[3]),(8,[0]),(29,[4]),(30,[5])] [(4,⟨[3,4,9,10,11],[(4,3,1)],[0],[],[],[],[]⟩)] [(4,⟨[4],[],[1],[],[],[],[]⟩)] [(4,yaiy ye8y (yb6y g g.N))] [] [] [] [] []
theorem ysly [Fuel]:yajy (yfQy ycFy).C:=ct_of (P:=Tryz.prog) (T:=T) (.cons yxxy .nil) (by kernel_rfl)
noncomputable def yhty:Code:=sub [1,1,1,0,1,0,0] yw0y
theorem yquy (g:C_log_dupes) (n:Nat):yamy (yfQy g) g.N yhty ye8y (yb6y g) n:=by intro ps; unfold yb6y; split; exact .inr fun R K=>(by kernel_rfl); exact .inl fun R K=>rfl
theorem yoky [Fuel]:yagy (yfQy ycFy) NN yhty:=yaky ye8y (yb6y ycFy) (by kernel_rfl) ysly (cuts0 (fun _=>rfl) (by kernel_rfl)) (fun ps R K=>by unfold yb6y; split <;> (try unfold ycRy) <;> rfl) (yquy ycFy)
theorem ysEy (g:C_log_dupes):Same (yeGy (@yo7y g)) (abody (yfQy g) Tryz.f74 yw0y 6 [] [.arr 3] g.N):=by intro args; unfold yeGy; split; exact .inr fun R k=>(by kernel_rfl); exact .inl fun R k=>rfl
theorem yshy [Fuel]:Ok 74 (yeGy (@log_dupes _)):=yacy std (.cons yxxy .nil) ⟨rfl,rfl,by kernel_rfl,rfl,rfl,rfl⟩ (ysEy ycFy) (cutsL (fun _=>rfl) (.cons yoky .nil) (by kernel_rfl)) Tryz.func74 (by kernel_rfl) (by kernel_rfl)
abbrev yidy:Type 1:=List G_Contact→{R:Type}→(List Int→Int→Option R)→Option R
structure C_log_Dupes where
 N:Nat
 z53z:yssy
 log_dupes:yhQy
def yo1y (g:C_log_Dupes) (a1:List G_Contact) {R:Type} (k0:List Int→Int→Option R):Option R :=
 (g.z53z a1 (fun r2=>(bif (r2 != 0) then k0 [] r2 else (g.log_dupes a1 (fun r3=>k0 r3 0)))))
noncomputable def ynuy [Fuel]:C_log_Dupes:=⟨NN,@z53z _,@log_dupes _⟩
noncomputable def log_Dupes [Fuel]:yidy:=@yo1y ynuy
def yeUy (g:yidy):Spec A:=fun args=>match args with | [.d (.sl 33 a1)]=>fun k=>g a1 (fun z0 z1=>k (.tup [.arr 3 z0,.d (.int .i64 z1)]) [.undef]) | _=>fun _=>none
noncomputable def yE2y:Code:=(Tryz.f38.body).getD .skip
noncomputable def ywwy (g:C_log_Dupes):Env A:=mkE [(73,ymjy g.z53z),(74,yeGy g.log_dupes)] [(11,[0])] [] [] [] [] [] [] [] []
theorem yvky (g:C_log_Dupes):Same (yeUy (@yo1y g)) (abody (ywwy g) Tryz.f38 yE2y 1 [] [.arr 3,.asis] g.N):=by intro args; unfold yeUy; split; exact .inr fun R k=>(by kernel_rfl); exact .inl fun R k=>rfl
theorem ytEy [Fuel]:Ok 38 (yeUy (@log_Dupes _)):=yacy std (.cons yEay (.cons yshy .nil)) ⟨rfl,rfl,by kernel_rfl,rfl,rfl,rfl⟩ (yvky ynuy) (cuts0 (fun _=>rfl) (by kernel_rfl)) Tryz.func38 (by kernel_rfl) (by kernel_rfl)
abbrev ytly:Type 1:=List Int→{R:Type}→(Int→Option R)→Option R
structure C_z29z where
 N:Nat
 kit_IsMode:ycZy
def z29z_L4 (g:C_z29z):Nat→List Int→List Int→Int→Int→{R:Type}→(Int→Option R)→Option R→Option R
 | 0,_,_,_,_,_,_,_=>none
 | n + 1,v2,v3,v4,v5,_,e0,e1=>(bif (decide (v5 < v4)) then (get_ v3 v5 fun x9=>(g.kit_IsMode x9 (fun r10=>(bif (!r10) then e0 4 else (bif (decide (v5 > 0)) then (get_ v2 (w64 (v5 - 1)) fun x11=>(bif (decide (x9≤x11)) then e0 7 else z29z_L4 g n v2 v3 v4 (w64 (v5 + 1)) e0 e1)) else z29z_L4 g n v2 v3 v4 (w64 (v5 + 1)) e0 e1))))) else e1)
def z29z_ (g:C_z29z) (a1:List Int) {R:Type} (k0:Int→Option R):Option R :=
 (bif ((a1.length:Int) == 0) then k0 8 else (z29z_L4 g g.N a1 a1 (a1.length:Int) 0 (fun e12=>k0 e12) (k0 0)))
noncomputable def ycXy [Fuel]:C_z29z:=⟨NN,@kit_IsMode _⟩
noncomputable def z29z [Fuel]:ytly:=@z29z_ ycXy
def ymyy (g:ytly):Spec A:=fun args=>match args with | [.d (.sl 3 a1)]=>fun k=>g a1 (fun z0=>k (.d (.int .i64 z0)) [.undef]) | _=>fun _=>none
def yjZy:SSt:=mkSh 30 0 [(0,.sl 3),(8,.sl 3),(9,.int .i64),(10,.int .i64)] []
def yfey (g:C_z29z) (n:Nat):LPT A:=fun ps=>match ps with | [.d (.sl 3 p1),.d (.sl 3 p2),.d (.int .i64 p3),.d (.int .i64 p4)]=>fun K=>z29z_L4 g n p1 p2 p3 p4 (fun z0=>K .ret (mkSt 30 0 [(2,.d (.int .i64 z0))] [])) (K (.exit 0) (mkSt 30 0 [] [])) | _=>fun _=>none
noncomputable def yufy:Code:=(Tryz.f114.body).getD .skip
noncomputable def yo6y (g:C_z29z):Env A:=mkE [(76,ybXy g.kit_IsMode)] [] [(4,⟨[0,8,9,10],[],[],[],[],[],[]⟩)] [(4,⟨[2],[],[],[],[],[],[]⟩)] [(4,yaiy yjZy (yfey g g.N))] [] [] [] [] []
theorem yFby [Fuel]:yajy (yo6y ycXy).C:=ct_of (P:=Tryz.prog) (T:=T) (.cons ydJy .nil) (by kernel_rfl)
noncomputable def ypqy:Code:=sub [1,1,0,1,0,0] yufy
theorem yB4y (g:C_z29z) (n:Nat):yamy (yo6y g) g.N ypqy yjZy (yfey g) n:=by intro ps; unfold yfey; split; exact .inr fun R K=>(by kernel_rfl); exact .inl fun R K=>rfl
theorem yzQy [Fuel]:yagy (yo6y ycXy) NN ypqy:=yaky yjZy (yfey ycXy) (by kernel_rfl) yFby (cuts0 (fun _=>rfl) (by kernel_rfl)) (fun ps R K=>by unfold yfey; split <;> (try unfold z29z_L4) <;> rfl) (yB4y ycXy)
theorem yHby (g:C_z29z):Same (ymyy (@z29z_ g)) (abody (yo6y g) Tryz.f114 yufy 0 [] [.asis] g.N):=by intro args; unfold ymyy; split; exact .inr fun R k=>(by kernel_rfl); exact .inl fun R k=>rfl
theorem yycy [Fuel]:Ok 114 (ymyy (@z29z _)):=yacy std (.cons ydJy .nil) ⟨rfl,rfl,by kernel_rfl,rfl,rfl,rfl⟩ (yHby ycXy) (cutsL (fun _=>rfl) (.cons yzQy .nil) (by kernel_rfl)) Tryz.func114 (by kernel_rfl) (by kernel_rfl)
abbrev yg7y:Type 1:=G_Window→{R:Type}→(Bool→Option R)→Option R
def yh6y (g:Nat) (a1:G_Window) {R:Type} (k0:Bool→Option R):Option R :=
 (bif (decide (a1.f_From ≥ 0)) then (bif (decide (a1.f_From < a1.f_To)) then k0 (decide (a1.f_To≤345686400000)) else k0 false) else k0 false)
noncomputable def kit_IsTime [Fuel]:yg7y:=@yh6y NN
def ydIy (g:yg7y):Spec A:=fun args=>match args with | [.agg [.d (.int .i64 a1),.d (.int .i64 a2)]]=>fun k=>g ⟨a1,a2⟩ (fun z0=>k (.d (.bool z0)) [.undef]) | _=>fun _=>none
noncomputable def yDMy:Code:=(Tryz.f115.body).getD .skip
noncomputable def yuzy (g:Nat):Env A:=mkE [] [(1,[0])] [] [] [] [] [] [] [] []
theorem yrLy (g:Nat):Same (ydIy (@yh6y g)) (abody (yuzy g) Tryz.f115 yDMy 1 [] [.asis] g):=by intro args; unfold ydIy; split; exact .inr fun R k=>(by kernel_rfl); exact .inl fun R k=>rfl
theorem ykjy [Fuel]:Ok 115 (ydIy (@kit_IsTime _)):=yacy std .nil ⟨rfl,rfl,by kernel_rfl,rfl,rfl,rfl⟩ (yrLy NN) (cuts0 (fun _=>rfl) (by kernel_rfl)) Tryz.func115 (by kernel_rfl) (by kernel_rfl)
abbrev yscy:Type 1:=G_Segment→G_Segment→{R:Type}→(Int→Option R)→Option R
structure C_z55z where
 N:Nat
 z24z:yhhy
 z25z:yiBy
 strings_Compare:ya2y
def z55z_ (g:C_z55z) (a1 a2:G_Segment) {R:Type} (k0:Int→Option R):Option R :=
 (g.strings_Compare a1.f_Class a2.f_Class (fun r3=>(g.z25z a1.f_Low a2.f_Low (fun r4=>(g.z25z a1.f_High a2.f_High (fun r5=>(g.z25z a1.f_Time.f_From a2.f_Time.f_From (fun r6=>(g.z24z [r3,r4,r5,r6] (fun r7=>k0 r7))))))))))
noncomputable def ys2y [Fuel]:C_z55z:=⟨NN,@z24z _,@z25z _,@strings_Compare _⟩
noncomputable def z55z [Fuel]:yscy:=@z55z_ ys2y
def ymDy (g:yscy):Spec A:=fun args=>match args with | [.agg [.d (.str a1),.d (.int .i64 a2),.d (.int .i64 a3),.d (.sl 3 a4),.d (.int .i64 a5),.d (.int .i64 a6)],.agg [.d (.str a7),.d (.int .i64 a8),.d (.int .i64 a9),.d (.sl 3 a10),.d (.int .i64 a11),.d (.int .i64 a12)]]=>fun k=>g ⟨a1,a2,a3,a4,⟨a5,a6⟩⟩ ⟨a7,a8,a9,a10,⟨a11,a12⟩⟩ (fun z0=>k (.d (.int .i64 z0)) [.undef,.undef]) | _=>fun _=>none
noncomputable def yDzy:Code:=(Tryz.f116.body).getD .skip
noncomputable def yI1y (g:C_z55z):Env A:=mkE [(63,ybEy g.z24z),(64,ybNy g.z25z),(65,yaBy g.strings_Compare)] [(2,[0]),(3,[1]),(27,[2])] [] [] [] [] [] [] [] []
theorem yHdy (g:C_z55z):Same (ymDy (@z55z_ g)) (abody (yI1y g) Tryz.f116 yDzy 3 [] [.asis] g.N):=by intro args; unfold ymDy; split; exact .inr fun R k=>(by kernel_rfl); exact .inl fun R k=>rfl
theorem yxMy [Fuel]:Ok 116 (ymDy (@z55z _)):=yacy std (.cons ygKy (.cons ymPy (.cons ya9y .nil))) ⟨rfl,rfl,by kernel_rfl,rfl,rfl,rfl⟩ (yHdy ys2y) (cuts0 (fun _=>rfl) (by kernel_rfl)) Tryz.func116 (by kernel_rfl) (by kernel_rfl)
abbrev ysoy:Type 1:=List G_Segment→{R:Type}→(Int→Option R)→Option R
structure C_z22z where
 N:Nat
 kit_IsKey:ybpy
 z29z:ytly
 kit_IsTime:yg7y
 z55z:yscy
def z22z_L4 (g:C_z22z):Nat→List G_Segment→List G_Segment→Int→Int→{R:Type}→(Int→Option R)→Option R→Option R
 | 0,_,_,_,_,_,_,_=>none
 | n + 1,v2,v3,v4,v5,_,e0,e1=>(bif (decide (v5 < v4)) then (get_ v3 v5 fun x12=>(g.kit_IsKey x12.f_Class (fun r13=>(bif (!r13) then e0 5 else (bif (decide (x12.f_Low < 0)) then e0 1 else (bif (decide (x12.f_Low ≥ x12.f_High)) then e0 1 else (bif (decide (x12.f_High > 30000000000)) then e0 1 else (g.z29z x12.f_Modes (fun r14=>(bif (r14 != 0) then e0 r14 else (g.kit_IsTime x12.f_Time (fun r15=>(bif (!r15) then e0 1 else (bif (decide (v5 > 0)) then (get_ v2 (w64 (v5 - 1)) fun x16=>(g.z55z x16 x12 (fun r17=>(bif (decide (r17 ≥ 0)) then e0 7 else z22z_L4 g n v2 v3 v4 (w64 (v5 + 1)) e0 e1)))) else z22z_L4 g n v2 v3 v4 (w64 (v5 + 1)) e0 e1)))))))))))))) else e1)
def z22z_ (g:C_z22z) (a1:List G_Segment) {R:Type} (k0:Int→Option R):Option R :=
 (bif (decide ((a1.length:Int) > 500)) then k0 2 else (z22z_L4 g g.N a1 a1 (a1.length:Int) 0 (fun e18=>k0 e18) (k0 0)))
noncomputable def yc1y [Fuel]:C_z22z:=⟨NN,@kit_IsKey _,@z29z _,@kit_IsTime _,@z55z _⟩
noncomputable def z22z [Fuel]:ysoy:=@z22z_ yc1y
def ylNy (g:ysoy):Spec A:=fun args=>match args with | [.d (.sl 86 a1)]=>fun k=>g a1 (fun z0=>k (.d (.int .i64 z0)) [.undef]) | _=>fun _=>none
def yjay:SSt:=mkSh 58 1 [(0,.sl 86),(9,.sl 86),(10,.int .i64),(11,.int .i64)] []
def yeAy (g:C_z22z) (n:Nat):LPT A:=fun ps=>match ps with | [.d (.sl 86 p1),.d (.sl 86 p2),.d (.int .i64 p3),.d (.int .i64 p4)]=>fun K=>z22z_L4 g n p1 p2 p3 p4 (fun z0=>K .ret (mkSt 58 1 [(2,.d (.int .i64 z0))] [])) (K (.exit 0) (mkSt 58 1 [] [])) | _=>fun _=>none
noncomputable def yx3y:Code:=(Tryz.f75.body).getD .skip
noncomputable def yoRy (g:C_z22z):Env A:=mkE [(68,ybay g.kit_IsKey),(114,ymyy g.z29z),(115,ydIy g.kit_IsTime),(116,ymDy g.z55z)] [(4,[0])] [(4,⟨[0,9,10,11],[],[],[],[],[],[]⟩)] [(4,⟨[2],[],[],[],[],[],[]⟩)] [(4,yaiy yjay (yeAy g g.N))] [] [] [] [] []
theorem yFCy [Fuel]:yajy (yoRy yc1y).C:=ct_of (P:=Tryz.prog) (T:=T) (.cons yaOy (.cons yycy (.cons ykjy (.cons yxMy .nil)))) (by kernel_rfl)
noncomputable def ypgy:Code:=sub [1,1,0,1,0,0] yx3y
theorem yAny (g:C_z22z) (n:Nat):yamy (yoRy g) g.N ypgy yjay (yeAy g) n:=by intro ps; unfold yeAy; split; exact .inr fun R K=>(by kernel_rfl); exact .inl fun R K=>rfl
theorem yzSy [Fuel]:yagy (yoRy yc1y) NN ypgy:=yaky yjay (yeAy yc1y) (by kernel_rfl) yFCy (cuts0 (fun _=>rfl) (by kernel_rfl)) (fun ps R K=>by unfold yeAy; split <;> (try unfold z22z_L4) <;> rfl) (yAny yc1y)
theorem yGmy (g:C_z22z):Same (ylNy (@z22z_ g)) (abody (yoRy g) Tryz.f75 yx3y 1 [] [.asis] g.N):=by intro args; unfold ylNy; split; exact .inr fun R k=>(by kernel_rfl); exact .inl fun R k=>rfl
theorem yD2y [Fuel]:Ok 75 (ylNy (@z22z _)):=yacy std (.cons yaOy (.cons yycy (.cons ykjy (.cons yxMy .nil)))) ⟨rfl,rfl,by kernel_rfl,rfl,rfl,rfl⟩ (yGmy yc1y) (cutsL (fun _=>rfl) (.cons yzSy .nil) (by kernel_rfl)) Tryz.func75 (by kernel_rfl) (by kernel_rfl)
abbrev yh8y:Type 1:=Int→Int→{R:Type}→(G_Row→Option R)→Option R
def ypsy (g:Nat) (a1 a2:Int) {R:Type} (k0:G_Row→Option R):Option R :=
 k0 (⟨(w64 (a1 - (w64 (Int.tdiv a2 2)))),(w64 ((w64 (a1 - (w64 (Int.tdiv a2 2)))) + a2))⟩:G_Row)
noncomputable def band_used [Fuel]:yh8y:=@ypsy NN
def yfby (g:yh8y):Spec A:=fun args=>match args with | [.d (.int .i64 a1),.d (.int .i64 a2)]=>fun k=>g a1 a2 (fun z0=>k (.agg [.d (.int .i64 z0.f_From),.d (.int .i64 z0.f_To)]) [.undef,.undef]) | _=>fun _=>none
noncomputable def yENy:Code:=(Tryz.f77.body).getD .skip
noncomputable def yvYy (g:Nat):Env A:=mkE [] [(4,[0])] [] [] [] [] [] [] [] []
theorem yvly (g:Nat):Same (yfby (@ypsy g)) (abody (yvYy g) Tryz.f77 yENy 1 [] [.asis] g):=by intro args; unfold yfby; split; exact .inr fun R k=>(by kernel_rfl); exact .inl fun R k=>rfl
theorem yt4y [Fuel]:Ok 77 (yfby (@band_used _)):=yacy std .nil ⟨rfl,rfl,by kernel_rfl,rfl,rfl,rfl⟩ (yvly NN) (cuts0 (fun _=>rfl) (by kernel_rfl)) Tryz.func77 (by kernel_rfl) (by kernel_rfl)
abbrev ykty:Type 1:=G_Window→Int→{R:Type}→(Bool→Option R)→Option R
def yn5y (g:Nat) (a1:G_Window) (a2:Int) {R:Type} (k0:Bool→Option R):Option R :=
 (bif (decide (a1.f_From≤a2)) then k0 (decide (a2 < a1.f_To)) else k0 false)
noncomputable def kit_Has [Fuel]:ykty:=@yn5y NN
def ygvy (g:ykty):Spec A:=fun args=>match args with | [.agg [.d (.int .i64 a1),.d (.int .i64 a2)],.d (.int .i64 a3)]=>fun k=>g ⟨a1,a2⟩ a3 (fun z0=>k (.d (.bool z0)) [.undef,.undef]) | _=>fun _=>none
noncomputable def yCiy:Code:=(Tryz.f119.body).getD .skip
noncomputable def yBmy (g:Nat):Env A:=mkE [] [(2,[0])] [] [] [] [] [] [] [] []
theorem yyBy (g:Nat):Same (ygvy (@yn5y g)) (abody (yBmy g) Tryz.f119 yCiy 1 [] [.asis] g):=by intro args; unfold ygvy; split; exact .inr fun R k=>(by kernel_rfl); exact .inl fun R k=>rfl
theorem yo8y [Fuel]:Ok 119 (ygvy (@kit_Has _)):=yacy std .nil ⟨rfl,rfl,by kernel_rfl,rfl,rfl,rfl⟩ (yyBy NN) (cuts0 (fun _=>rfl) (by kernel_rfl)) Tryz.func119 (by kernel_rfl) (by kernel_rfl)
abbrev ysXy:Type 1:=List Int→Int→{R:Type}→(Int→Option R)→Option R
def z43z_L2 (g:Nat):Nat→List Int→Int→Int→Int→{R:Type}→(Int→Option R)→Option R→Option R
 | 0,_,_,_,_,_,_,_=>none
 | n + 1,v3,v4,v5,v6,_,e0,e1=>(bif (decide (v6 < v5)) then (get_ v3 v6 fun x8=>(bif (v4 == x8) then e0 v6 else z43z_L2 g n v3 v4 v5 (w64 (v6 + 1)) e0 e1)) else e1)
def z43z_ (g:Nat) (a1:List Int) (a2:Int) {R:Type} (k0:Int→Option R):Option R :=
 (z43z_L2 g g a1 a2 (a1.length:Int) 0 (fun e9=>k0 e9) (k0 (-1)))
noncomputable def z43z [Fuel]:ysXy:=@z43z_ NN
def ymly (g:ysXy):Spec A:=fun args=>match args with | [.d (.sl 3 a1),.d (.int .i64 a2)]=>fun k=>g a1 a2 (fun z0=>k (.d (.int .i64 z0)) [.undef,.undef]) | _=>fun _=>none
def yj7y:SSt:=mkSh 19 0 [(0,.sl 3),(1,.int .i64),(7,.int .i64),(8,.int .i64)] []
def yeQy (g:Nat) (n:Nat):LPT A:=fun ps=>match ps with | [.d (.sl 3 p1),.d (.int .i64 p2),.d (.int .i64 p3),.d (.int .i64 p4)]=>fun K=>z43z_L2 g n p1 p2 p3 p4 (fun z0=>K .ret (mkSt 19 0 [(4,.d (.int .i64 z0))] [])) (K (.exit 0) (mkSt 19 0 [] [])) | _=>fun _=>none
noncomputable def yu8y:Code:=(Tryz.f151.body).getD .skip
noncomputable def ypoy (g:Nat):Env A:=mkE [] [] [(2,⟨[0,1,7,8],[],[],[],[],[],[]⟩)] [(2,⟨[4],[],[],[],[],[],[]⟩)] [(2,yaiy yj7y (yeQy g g))] [] [] [] [] []
theorem yEiy [Fuel]:yajy (ypoy NN).C:=ct_of (P:=Tryz.prog) (T:=T) .nil (by kernel_rfl)
noncomputable def yoJy:Code:=sub [1,0,1,0,0] yu8y
theorem yAuy (g:Nat) (n:Nat):yamy (ypoy g) g yoJy yj7y (yeQy g) n:=by intro ps; unfold yeQy; split; exact .inr fun R K=>(by kernel_rfl); exact .inl fun R K=>rfl
theorem yzGy [Fuel]:yagy (ypoy NN) NN yoJy:=yaky yj7y (yeQy NN) (by kernel_rfl) yEiy (cuts0 (fun _=>rfl) (by kernel_rfl)) (fun ps R K=>by unfold yeQy; split <;> (try unfold z43z_L2) <;> rfl) (yAuy NN)
theorem yEEy (g:Nat):Same (ymly (@z43z_ g)) (abody (ypoy g) Tryz.f151 yu8y 0 [] [.asis] g):=by intro args; unfold ymly; split; exact .inr fun R k=>(by kernel_rfl); exact .inl fun R k=>rfl
theorem yEJy [Fuel]:Ok 151 (ymly (@z43z _)):=yacy std .nil ⟨rfl,rfl,by kernel_rfl,rfl,rfl,rfl⟩ (yEEy NN) (cutsL (fun _=>rfl) (.cons yzGy .nil) (by kernel_rfl)) Tryz.func151 (by kernel_rfl) (by kernel_rfl)
end Go.Am
