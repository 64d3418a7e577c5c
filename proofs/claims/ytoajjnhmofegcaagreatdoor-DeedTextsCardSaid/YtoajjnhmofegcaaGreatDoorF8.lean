/- The functions of the program as Lean functions, each shown to be what the code computes, part 8. No condition: lemmas for the claim. -/
import Derived.Test.YtoajjnhmofegcaaGreatDoorF0
import Derived.Test.YtoajjnhmofegcaaGreatDoorFSh
import Derived.Test.YtoajjnhmofegcaaGreatDoorF1
import Derived.Test.YtoajjnhmofegcaaGreatDoorF2
import Derived.Test.YtoajjnhmofegcaaGreatDoorF4
import Derived.Test.YtoajjnhmofegcaaGreatDoorF5
import Derived.Test.YtoajjnhmofegcaaGreatDoorF6
import Derived.Test.YtoajjnhmofegcaaGreatDoorF7
set_option linter.unusedVariables false
set_option maxRecDepth 100000
namespace Go.Am
open Go Go.Proofs
abbrev yhDy:Type 1:=List UInt8→Int→{R:Type}→(Int→Bool→Option R)→Option R
structure C_Q_Number where
 N:Nat
 strconv_Itoa:ybGy
 Q_only:ykYy
 z59z:ytuy
 strconv_Atoi:yd2y
def yiRy (g:C_Q_Number) (a1:List UInt8) (a2:Int) {R:Type} (k0:Int→Bool→Option R):Option R :=
 (g.z59z a1 [45] (fun r3=>(bif (r3 == []) then k0 0 false else (bif (decide ((r3.length:Int) > a2)) then k0 0 false else (g.Q_only r3 [48,49,50,51,52,53,54,55,56,57] (fun r4=>(bif (!r4) then k0 0 false else (g.strconv_Atoi a1 (fun r5=>(g.strconv_Itoa r5 (fun r6=>k0 r5 (r6 == a1))))))))))))
noncomputable def yday [Fuel]:C_Q_Number:=⟨NN,@strconv_Itoa _,@Q_only _,@z59z _,@strconv_Atoi _⟩
noncomputable def Q_Number [Fuel]:yhDy:=@yiRy yday
def yexy (g:yhDy):Spec A:=fun args=>match args with | [.d (.str a1),.d (.int .i64 a2)]=>fun k=>g a1 a2 (fun z0 z1=>k (.tup [.d (.int .i64 z0),.d (.bool z1)]) [.undef,.undef]) | _=>fun _=>none
noncomputable def yHiy:Code:=(Tryz.f91.body).getD .skip
noncomputable def yAly (g:C_Q_Number):Env A:=mkE [(79,ybPy g.strconv_Itoa),(141,ygXy g.Q_only),(143,ynOy g.z59z),(144,yfcy g.strconv_Atoi)] [] [] [] [] [] [] [] [] []
theorem yw1y (g:C_Q_Number):Same (yexy (@yiRy g)) (abody (yAly g) Tryz.f91 yHiy 0 [] [.asis,.asis] g.N):=by intro args;unfold yexy;split;exact .inr fun R k=>(by kernel_rfl);exact .inl fun R k=>rfl
theorem yjdy [Fuel]:Ok 91 (yexy (@Q_Number _)):=yacy std (.cons ybry (.cons yr9y (.cons yFXy (.cons yiGy .nil)))) ⟨rfl,rfl,by kernel_rfl,rfl,rfl,rfl⟩ (yw1y yday) (cuts0 (fun _=>rfl) (by kernel_rfl)) Tryz.func91 (by kernel_rfl) (by kernel_rfl)
abbrev yq3y:Type 1:=List (List UInt8)→Int→{R:Type}→(List Int→Bool→Option R)→Option R
structure C_z36z where
 N:Nat
 Q_Number:yhDy
def z36z_L4 (g:C_z36z):Nat→Int→Bool→List (List UInt8)→Int→Int→List Int→{R:Type}→(Bool→List Int→Option R)→Option R
 | 0,_,_,_,_,_,_,_,_=>none
 | n + 1,v3,v4,v5,v6,v7,v8,_,e0=>(bif (decide (v7 < v6)) then (get_ v5 v7 fun x12=>(g.Q_Number x12 v3 (fun r13 r14=>(bif (decide ((v8.length + [r13].length) * 8≤yaey)) then (bif v4 then z36z_L4 g n v3 r14 v5 v6 (w64 (v7 + 1)) (v8++[r13]) e0 else z36z_L4 g n v3 false v5 v6 (w64 (v7 + 1)) (v8++[r13]) e0) else none)))) else e0 v4 v8)
def z36z_ (g:C_z36z) (a1:List (List UInt8)) (a2:Int) {R:Type} (k0:List Int→Bool→Option R):Option R :=
 (z36z_L4 g g.N a2 true a1 (a1.length:Int) 0 [] (fun e15 e16=>k0 e16 e15))
noncomputable def ygQy [Fuel]:C_z36z:=⟨NN,@Q_Number _⟩
noncomputable def z36z [Fuel]:yq3y:=@z36z_ ygQy
def yj8y (g:yq3y):Spec A:=fun args=>match args with | [.d (.sl 9 a1),.d (.int .i64 a2)]=>fun k=>g a1 a2 (fun z0 z1=>k (.tup [.arr 3 z0,.d (.bool z1)]) [.undef,.undef]) | _=>fun _=>none
def ylky:SSt:=mkSh 35 3 [(1,.int .i64),(6,.own 3 0),(7,.bool),(12,.sl 9),(13,.int .i64),(14,.int .i64)] [(0,.row 3)]
def yfYy (g:C_z36z) (n:Nat):LPT A:=fun ps=>match ps with | [.d (.int .i64 p1),.d (.bool p2),.d (.sl 9 p3),.d (.int .i64 p4),.d (.int .i64 p5),.d (.sl 3 p6)]=>fun K=>z36z_L4 g n p1 p2 p3 p4 p5 p6 (fun z0 z1=>K (.exit 0) (mkSt 35 3 [(6,.own 3 0),(7,.d (.bool z0))] [(0,some (.row 3 z1))])) | _=>fun _=>none
noncomputable def ywky:Code:=(Tryz.f102.body).getD .skip
noncomputable def yqRy (g:C_z36z):Env A:=mkE [(91,yexy g.Q_Number)] [(26,[1]),(27,[2])] [(4,⟨[1,6,7,12,13,14],[(6,3,0)],[],[],[],[],[]⟩)] [(4,⟨[6,7],[],[0],[],[],[],[]⟩)] [(4,yajy ylky (yfYy g g.N))] [] [] [] [] []
theorem yFTy [Fuel]:yahy (yqRy ygQy).C:=ct_of (P:=Tryz.prog) (T:=T) (.cons yjdy .nil) (by kernel_rfl)
noncomputable def ypLy:Code:=sub [1,1,1,0,1,0,0] ywky
theorem yCty (g:C_z36z) (n:Nat):yaCy (yqRy g) g.N ypLy ylky (yfYy g) n:=by intro ps;unfold yfYy;split;exact .inr fun R K=>(by kernel_rfl);exact .inl fun R K=>rfl
theorem yAqy [Fuel]:yaiy (yqRy ygQy) NN ypLy:=yamy ylky (yfYy ygQy) (by kernel_rfl) yFTy (cuts0 (fun _=>rfl) (by kernel_rfl)) (fun ps R K=>by unfold yfYy;split <;> (try unfold z36z_L4) <;> rfl) (yCty ygQy)
theorem yGqy (g:C_z36z):Same (yj8y (@z36z_ g)) (abody (yqRy g) Tryz.f102 ywky 3 [] [.arr 3,.asis] g.N):=by intro args;unfold yj8y;split;exact .inr fun R k=>(by kernel_rfl);exact .inl fun R k=>rfl
theorem yyFy [Fuel]:Ok 102 (yj8y (@z36z _)):=yacy std (.cons yjdy .nil) ⟨rfl,rfl,by kernel_rfl,rfl,rfl,rfl⟩ (yGqy ygQy) (cutsL (fun _=>rfl) (.cons yAqy .nil) (by kernel_rfl)) Tryz.func102 (by kernel_rfl) (by kernel_rfl)
abbrev yluy:Type 1:=List UInt8→{R:Type}→(List UInt8→Option R)→Option R
def yiSy (g:Nat) (a1:List UInt8) {R:Type} (k0:List UInt8→Option R):Option R :=
 (bif (a1 == [45]) then k0 [] else k0 a1)
noncomputable def Q_undash [Fuel]:yluy:=@yiSy NN
def ygNy (g:yluy):Spec A:=fun args=>match args with | [.d (.str a1)]=>fun k=>g a1 (fun z0=>k (.d (.str z0)) [.undef]) | _=>fun _=>none
noncomputable def yDcy:Code:=(Tryz.f130.body).getD .skip
noncomputable def yzty (g:Nat):Env A:=mkE [] [] [] [] [] [] [] [] [] []
theorem ywZy (g:Nat):Same (ygNy (@yiSy g)) (abody (yzty g) Tryz.f130 yDcy 0 [] [.asis] g):=by intro args;unfold ygNy;split;exact .inr fun R k=>(by kernel_rfl);exact .inl fun R k=>rfl
theorem ywOy [Fuel]:Ok 130 (ygNy (@Q_undash _)):=yacy std .nil ⟨rfl,rfl,by kernel_rfl,rfl,rfl,rfl⟩ (ywZy NN) (cuts0 (fun _=>rfl) (by kernel_rfl)) Tryz.func130 (by kernel_rfl) (by kernel_rfl)
abbrev yujy:Type 1:=List (List UInt8)→{R:Type}→(G_Contact→Bool→Option R)→Option R
structure C_z72z where
 N:Nat
 z81z:yp8y
 z14z:yj7y
 z36z:yq3y
 Q_undash:yluy
def z72z_ (g:C_z72z) (a1:List (List UInt8)) {R:Type} (k0:G_Contact→Bool→Option R):Option R :=
 (bif ((a1.length:Int) != 8) then k0 (⟨0,0,[],[],0,0,[],[]⟩:G_Contact) false else (at_ a1 0 fun x2=>(at_ a1 4 fun x3=>(at_ a1 6 fun x4=>(g.z36z [x2,x3,x4] 15 (fun r5 r6=>(inr r5 0 (at_ r5 0 fun x7=>(at_ a1 1 fun x8=>(at_ a1 2 fun x9=>(at_ a1 3 fun x10=>(inr r5 1 (at_ r5 1 fun x11=>(at_ a1 5 fun x12=>(inr r5 2 (at_ r5 2 fun x13=>(at_ a1 7 fun x14=>(g.z81z (fun r15=>(g.z14z r15 x8 (fun r16=>(g.Q_undash x12 (fun r17=>(g.Q_undash x14 (fun r18=>(bif r6 then k0 (⟨x7,r16,x9,x10,x11,x13,r17,r18⟩:G_Contact) (decide (r16 > 0)) else k0 (⟨x7,r16,x9,x10,x11,x13,r17,r18⟩:G_Contact) false))))))))))))))))))))))))))
noncomputable def ydIy [Fuel]:C_z72z:=⟨NN,@z81z _,@z14z _,@z36z _,@Q_undash _⟩
noncomputable def z72z [Fuel]:yujy:=@z72z_ ydIy
def ynJy (g:yujy):Spec A:=fun args=>match args with | [.d (.sl 9 a1)]=>fun k=>g a1 (fun z0 z1=>k (.tup [.agg [.d (.int .i64 z0.f_At),.d (.int .i64 z0.f_Mode),.d (.str z0.f_Band),.d (.str z0.f_Call),.d (.int .i64 z0.f_Sent),.d (.int .i64 z0.f_Heard),.d (.str z0.f_Gave),.d (.str z0.f_Got)],.d (.bool z1)]) [.undef]) | _=>fun _=>none
noncomputable def yHyy:Code:=(Tryz.f66.body).getD .skip
noncomputable def yH6y (g:C_z72z):Env A:=mkE [(88,yjGy g.z81z),(92,ygmy g.z14z),(102,yj8y g.z36z),(130,ygNy g.Q_undash)] [(2,[0]),(6,[3]),(21,[1]),(22,[2]),(28,[4])] [] [] [] [] [] [] [] []
theorem yFcy (g:C_z72z):Same (ynJy (@z72z_ g)) (abody (yH6y g) Tryz.f66 yHyy 5 [] [.asis,.asis] g.N):=by intro args;unfold ynJy;split;exact .inr fun R k=>(by kernel_rfl);exact .inl fun R k=>rfl
theorem yGuy [Fuel]:Ok 66 (ynJy (@z72z _)):=yacy std (.cons yxOy (.cons ynWy (.cons yyFy (.cons ywOy .nil)))) ⟨rfl,rfl,by kernel_rfl,rfl,rfl,rfl⟩ (yFcy ydIy) (cuts0 (fun _=>rfl) (by kernel_rfl)) Tryz.func66 (by kernel_rfl) (by kernel_rfl)
abbrev yvEy:Type 1:=List UInt8→List G_Deed→{R:Type}→(Bool→List G_Deed→Option R)→Option R
structure C_z40z where
 N:Nat
 Q_Words:ymMy
 z72z:yujy
 Q_Number:yhDy
 z36z:yq3y
def z40z_ (g:C_z40z) (a1:List UInt8) (a2:List G_Deed) {R:Type} (k0:Bool→List G_Deed→Option R):Option R :=
 (g.Q_Words a1 (fun r3 r4=>(bif (!r4) then k0 false a2 else (bif (decide ((r3.length:Int) < 5)) then k0 false a2 else (inr r3 3 (at_ r3 3 fun x5=>(bif ((r3.length:Int) != ((yaay x5 (yaby [117,110,100,111] 6 (yaby [102,114,101,101] 5 (yaby [104,101,108,100] 5 (yaby [116,117,110,101] 5 (yaby [108,111,103] 12 [])))))).getD 0)) then k0 false a2 else (bif (decide (0≤1)&&(decide (1≤3)&&decide (3≤(r3.length:Int)))) then (g.z36z ((r3.take (3:Int).toNat).drop (1:Int).toNat) 15 (fun r6 r7=>(inr r3 0 (at_ r3 0 fun x8=>(inr r6 0 (at_ r6 0 fun x9=>(inr r6 1 (at_ r6 1 fun x10=>(inr r3 3 (at_ r3 3 fun x11=>(bif (x11 == [108,111,103]) then (bif (decide (0≤4)&&decide (4≤(r3.length:Int))) then (g.z72z (r3.drop (4:Int).toNat) (fun r12 r13=>(bif (decide ((a2.length + [(⟨x8,x9,x10,1,r12,[],[],0⟩:G_Deed)].length) * 176≤yaey)) then (bif r7 then k0 r13 (a2++[(⟨x8,x9,x10,1,r12,[],[],0⟩:G_Deed)]) else k0 false (a2++[(⟨x8,x9,x10,1,r12,[],[],0⟩:G_Deed)])) else none))) else none) else (bif (x11 == [116,117,110,101]) then (inr r3 4 (at_ r3 4 fun x14=>(bif (decide ((a2.length + [(⟨x8,x9,x10,2,(⟨0,0,[],[],0,0,[],[]⟩:G_Contact),x14,[],0⟩:G_Deed)].length) * 176≤yaey)) then (bif r7 then k0 true (a2++[(⟨x8,x9,x10,2,(⟨0,0,[],[],0,0,[],[]⟩:G_Contact),x14,[],0⟩:G_Deed)]) else k0 false (a2++[(⟨x8,x9,x10,2,(⟨0,0,[],[],0,0,[],[]⟩:G_Contact),x14,[],0⟩:G_Deed)])) else none))) else (bif (x11 == [104,101,108,100]) then (inr r3 4 (at_ r3 4 fun x15=>(g.Q_Number x15 15 (fun r16 r17=>(bif (decide ((a2.length + [(⟨x8,x9,x10,3,(⟨0,0,[],[],r16,0,[],[]⟩:G_Contact),[],[],0⟩:G_Deed)].length) * 176≤yaey)) then (bif r7 then k0 r17 (a2++[(⟨x8,x9,x10,3,(⟨0,0,[],[],r16,0,[],[]⟩:G_Contact),[],[],0⟩:G_Deed)]) else k0 false (a2++[(⟨x8,x9,x10,3,(⟨0,0,[],[],r16,0,[],[]⟩:G_Contact),[],[],0⟩:G_Deed)])) else none))))) else (bif (x11 == [102,114,101,101]) then (inr r3 4 (at_ r3 4 fun x18=>(g.Q_Number x18 15 (fun r19 r20=>(bif (decide ((a2.length + [(⟨x8,x9,x10,4,(⟨0,0,[],[],r19,0,[],[]⟩:G_Contact),[],[],0⟩:G_Deed)].length) * 176≤yaey)) then (bif r7 then k0 r20 (a2++[(⟨x8,x9,x10,4,(⟨0,0,[],[],r19,0,[],[]⟩:G_Contact),[],[],0⟩:G_Deed)]) else k0 false (a2++[(⟨x8,x9,x10,4,(⟨0,0,[],[],r19,0,[],[]⟩:G_Contact),[],[],0⟩:G_Deed)])) else none))))) else (inr r3 4 (at_ r3 4 fun x21=>(inr r3 5 (at_ r3 5 fun x22=>(g.Q_Number x22 15 (fun r23 r24=>(bif (decide ((a2.length + [(⟨x8,x9,x10,5,(⟨0,0,[],[],0,0,[],[]⟩:G_Contact),[],x21,r23⟩:G_Deed)].length) * 176≤yaey)) then (bif r7 then k0 r24 (a2++[(⟨x8,x9,x10,5,(⟨0,0,[],[],0,0,[],[]⟩:G_Contact),[],x21,r23⟩:G_Deed)]) else k0 false (a2++[(⟨x8,x9,x10,5,(⟨0,0,[],[],0,0,[],[]⟩:G_Contact),[],x21,r23⟩:G_Deed)])) else none))))))))))))))))))))) else none))))))))
noncomputable def yfhy [Fuel]:C_z40z:=⟨NN,@Q_Words _,@z72z _,@Q_Number _,@z36z _⟩
noncomputable def z40z [Fuel]:yvEy:=@z40z_ yfhy
def ynsy (g:yvEy):Spec A:=fun args=>match args with | [.d (.str a1),.box [.arr 71 a2]]=>fun k=>g a1 a2 (fun z0 z1=>k (.d (.bool z0)) [.undef,.box [.arr 71 z1]]) | _=>fun _=>none
noncomputable def yCIy:Code:=(Tryz.f114.body).getD .skip
noncomputable def yI3y (g:C_z40z):Env A:=mkE [(65,yhuy g.Q_Words),(66,ynJy g.z72z),(91,yexy g.Q_Number),(102,yj8y g.z36z)] [(8,[5]),(12,[2]),(25,[3]),(36,[4]),(108,[6]),(109,[7])] [] [] [] [] [] [] [] [1]
theorem yEZy (g:C_z40z):Same (ynsy (@z40z_ g)) (abody (yI3y g) Tryz.f114 yCIy 8 [0,1] [.asis] g.N):=by intro args;unfold ynsy;split;exact .inr fun R k=>(by kernel_rfl);exact .inl fun R k=>rfl
theorem yxGy [Fuel]:Ok 114 (ynsy (@z40z _)):=yacy std (.cons yzNy (.cons yGuy (.cons yjdy (.cons yyFy .nil)))) ⟨rfl,rfl,by kernel_rfl,rfl,rfl,rfl⟩ (yEZy yfhy) (cuts0 (fun _=>rfl) (by kernel_rfl)) Tryz.func114 (by kernel_rfl) (by kernel_rfl)
abbrev yv0y:Type 1:=List UInt8→{R:Type}→(Int→Bool→List G_Deed→Option R)→Option R
structure C_z16z where
 N:Nat
 z40z:yvEy
 z22z:ymSy
def z16z_L2 (g:C_z16z):Nat→List UInt8→Int→List G_Deed→{R:Type}→(Int→Bool→List G_Deed→Option R)→(Int→Bool→List G_Deed→Option R)→(List G_Deed→Option R)→Option R
 | 0,_,_,_,_,_,_,_=>none
 | n + 1,v2,v3,v4,_,e0,e1,e2=>(bif (!(v2 == [])) then (g.z22z v2 [10] (fun r10 r11 r12=>(bif (!r12) then e0 v3 false v4 else (g.z40z r10 v4 (fun r13 r14=>(bif (!r13) then e1 v3 false r14 else z16z_L2 g n r11 (w64 (v3 + 1)) r14 e0 e1 e2)))))) else e2 v4)
def z16z_ (g:C_z16z) (a1:List UInt8) {R:Type} (k0:Int→Bool→List G_Deed→Option R):Option R :=
 (z16z_L2 g g.N a1 0 [] (fun e15 e16 e17=>k0 e15 e16 e17) (fun e18 e19 e20=>k0 e18 e19 e20) (fun e21=>k0 0 true e21))
noncomputable def yfRy [Fuel]:C_z16z:=⟨NN,@z40z _,@z22z _⟩
noncomputable def z16z [Fuel]:yv0y:=@z16z_ yfRy
def yngy (g:yv0y):Spec A:=fun args=>match args with | [.d (.str a1),.fn 114 [.box [.d .nsl]]]=>fun k=>g a1 (fun z0 z1 z2=>k (.tup [.d (.int .i64 z0),.d (.bool z1)]) [.undef,.fn 114 [.box [.arr 71 z2]]]) | _=>fun _=>none
def yk2y:SSt:=mkSh 30 3 [(0,.str),(1,.fn 114 [.ptr 0 0]),(6,.int .i64)] [(0,.box [.own 71 1]),(1,.row 71)]
def yfsy (g:C_z16z) (n:Nat):LPT A:=fun ps=>match ps with | [.d (.str p1),.d (.int .i64 p2),.d (.sl 71 p3)]=>fun K=>z16z_L2 g n p1 p2 p3 (fun z0 z1 z2=>K .ret (mkSt 30 3 [(1,.fn 114 [.ptr 0 0]),(4,.d (.int .i64 z0)),(5,.d (.bool z1))] [(0,some (.box [.own 71 1])),(1,some (.row 71 z2))])) (fun z0 z1 z2=>K .ret (mkSt 30 3 [(1,.fn 114 [.ptr 0 0]),(4,.d (.int .i64 z0)),(5,.d (.bool z1))] [(0,some (.box [.own 71 2])),(1,some (.gone (0,71))),(2,some (.row 71 z2))])) (fun z0=>K (.exit 0) (mkSt 30 3 [(1,.fn 114 [.ptr 0 0])] [(0,some (.box [.own 71 1])),(1,some (.row 71 z0))])) | _=>fun _=>none
noncomputable def yyOy:Code:=(Tryz.f63.body).getD .skip
noncomputable def ypyy (g:C_z16z):Env A:=mkE [(114,ynsy g.z40z),(128,yhRy g.z22z)] [(25,[2])] [(2,⟨[0,1,6],[],[0],[(0,0,71,1)],[],[],[]⟩)] [(2,⟨[1,4,5],[],[0,1,2],[],[],[],[]⟩)] [(2,yajy yk2y (yfsy g g.N))] [] [] [] [] [1]
theorem yFAy [Fuel]:yahy (ypyy yfRy).C:=ct_of (P:=Tryz.prog) (T:=T) (.cons yxGy (.cons ynhy .nil)) (by kernel_rfl)
noncomputable def yqoy:Code:=sub [1,0,1,0,0] yyOy
theorem yBey (g:C_z16z) (n:Nat):yaCy (ypyy g) g.N yqoy yk2y (yfsy g) n:=by intro ps;unfold yfsy;split;exact .inr fun R K=>(by kernel_rfl);exact .inl fun R K=>rfl
theorem yAey [Fuel]:yaiy (ypyy yfRy) NN yqoy:=yamy yk2y (yfsy yfRy) (by kernel_rfl) yFAy (cuts0 (fun _=>rfl) (by kernel_rfl)) (fun ps R K=>by unfold yfsy;split <;> (try unfold z16z_L2) <;> rfl) (yBey yfRy)
theorem yHpy (g:C_z16z):Same (yngy (@z16z_ g)) (abody (ypyy g) Tryz.f63 yyOy 3 [0] [.asis,.asis] g.N):=by intro args;unfold yngy;split;exact .inr fun R k=>(by kernel_rfl);exact .inl fun R k=>rfl
theorem yG2y [Fuel]:Ok 63 (yngy (@z16z _)):=yacy std (.cons yxGy (.cons ynhy .nil)) ⟨rfl,rfl,by kernel_rfl,rfl,rfl,rfl⟩ (yHpy yfRy) (cutsL (fun _=>rfl) (.cons yAey .nil) (by kernel_rfl)) Tryz.func63 (by kernel_rfl) (by kernel_rfl)
abbrev ytHy:Type 1:=List UInt8→{R:Type}→(List G_Deed→Int→Int→Option R)→Option R
structure C_z11z where
 N:Nat
 z3z:T_z3z
 z16z:yv0y
def z11z_ (g:C_z11z) (a1:List UInt8) {R:Type} (k0:List G_Deed→Int→Int→Option R):Option R :=
 (bif (decide ((a1.length:Int) > 200000)) then k0 [] 0 2 else (g.z16z a1 (fun r2 r3 r4=>(bif (!r3) then k0 [] r2 9 else (g.z3z r4 (fun r5=>(bif (r5 != 0) then k0 [] 0 r5 else k0 r4 0 0)))))))
noncomputable def ym5y [Fuel]:C_z11z:=⟨NN,@z3z _,@z16z _⟩
noncomputable def z11z [Fuel]:ytHy:=@z11z_ ym5y
def yn3y (g:ytHy):Spec A:=fun args=>match args with | [.d (.str a1)]=>fun k=>g a1 (fun z0 z1 z2=>k (.tup [.arr 71 z0,.d (.int .i64 z1),.d (.int .i64 z2)]) [.undef]) | _=>fun _=>none
noncomputable def yHLy:Code:=(Tryz.f41.body).getD .skip
noncomputable def yIqy (g:C_z11z):Env A:=mkE [(38,yj4y g.z3z),(63,yngy g.z16z)] [(5,[0]),(15,[1])] [] [] [] [] [] [] [] []
theorem yGRy (g:C_z11z):Same (yn3y (@z11z_ g)) (abody (yIqy g) Tryz.f41 yHLy 2 [] [.arr 71,.asis,.asis] g.N):=by intro args;unfold yn3y;split;exact .inr fun R k=>(by kernel_rfl);exact .inl fun R k=>rfl
theorem yHMy [Fuel]:Ok 41 (yn3y (@z11z _)):=yacy std (.cons ypTy (.cons yG2y .nil)) ⟨rfl,rfl,by kernel_rfl,rfl,rfl,rfl⟩ (yGRy ym5y) (cuts0 (fun _=>rfl) (by kernel_rfl)) Tryz.func41 (by kernel_rfl) (by kernel_rfl)
abbrev yvBy:Type 1:=List G_Deed→List G_Deed→{R:Type}→(Bool→Option R)→Option R
def z31z_L4 (g:Nat):Nat→List G_Deed→List G_Deed→Int→Int→{R:Type}→(Bool→Option R)→Option R→Option R
 | 0,_,_,_,_,_,_,_=>none
 | n + 1,v3,v4,v5,v6,_,e0,e1=>(bif (decide (v6 < v5)) then (get_ v3 v6 fun x9=>(get_ v4 v6 fun x10=>(bif (!(yaoy x9 x10)) then e0 false else z31z_L4 g n v3 v4 v5 (w64 (v6 + 1)) e0 e1))) else e1)
def z31z_ (g:Nat) (a1 a2:List G_Deed) {R:Type} (k0:Bool→Option R):Option R :=
 (bif ((a1.length:Int) != (a2.length:Int)) then k0 false else (z31z_L4 g g a1 a2 (a1.length:Int) 0 (fun e11=>k0 e11) (k0 true)))
noncomputable def z31z [Fuel]:yvBy:=@z31z_ NN
def ynXy (g:yvBy):Spec A:=fun args=>match args with | [.d (.sl 71 a1),.d (.sl 71 a2)]=>fun k=>g a1 a2 (fun z0=>k (.d (.bool z0)) [.undef,.undef]) | _=>fun _=>none
def ykLy:SSt:=mkSh 26 0 [(0,.sl 71),(1,.sl 71),(12,.int .i64),(13,.int .i64)] []
def yfby (g:Nat) (n:Nat):LPT A:=fun ps=>match ps with | [.d (.sl 71 p1),.d (.sl 71 p2),.d (.int .i64 p3),.d (.int .i64 p4)]=>fun K=>z31z_L4 g n p1 p2 p3 p4 (fun z0=>K .ret (mkSt 26 0 [(4,.d (.bool z0))] [])) (K (.exit 0) (mkSt 26 0 [] [])) | _=>fun _=>none
noncomputable def yyAy:Code:=(Tryz.f42.body).getD .skip
noncomputable def ypBy (g:Nat):Env A:=mkE [] [] [(4,⟨[0,1,12,13],[],[],[],[],[],[]⟩)] [(4,⟨[4],[],[],[],[],[],[]⟩)] [(4,yajy ykLy (yfby g g))] [] [] [] [] []
theorem yFoy [Fuel]:yahy (ypBy NN).C:=ct_of (P:=Tryz.prog) (T:=T) .nil (by kernel_rfl)
noncomputable def ypRy:Code:=sub [1,1,0,1,0,0] yyAy
theorem yA6y (g:Nat) (n:Nat):yaCy (ypBy g) g ypRy ykLy (yfby g) n:=by intro ps;unfold yfby;split;exact .inr fun R K=>(by kernel_rfl);exact .inl fun R K=>rfl
theorem yzxy [Fuel]:yaiy (ypBy NN) NN ypRy:=yamy ykLy (yfby NN) (by kernel_rfl) yFoy (cuts0 (fun _=>rfl) (by kernel_rfl)) (fun ps R K=>by unfold yfby;split <;> (try unfold z31z_L4) <;> rfl) (yA6y NN)
theorem yFBy (g:Nat):Same (ynXy (@z31z_ g)) (abody (ypBy g) Tryz.f42 yyAy 0 [] [.asis] g):=by intro args;unfold ynXy;split;exact .inr fun R k=>(by kernel_rfl);exact .inl fun R k=>rfl
theorem yGoy [Fuel]:Ok 42 (ynXy (@z31z _)):=yacy std .nil ⟨rfl,rfl,by kernel_rfl,rfl,rfl,rfl⟩ (yFBy NN) (cutsL (fun _=>rfl) (.cons yzxy .nil) (by kernel_rfl)) Tryz.func42 (by kernel_rfl) (by kernel_rfl)
abbrev yu6y:Type 1:=List G_Deed→Int→{R:Type}→(Int→Option R)→Option R
structure C_z77z where
 N:Nat
 z7z:T_z7z
 z55z:ymny
def z77z_ (g:C_z77z) (a1:List G_Deed) (a2:Int) {R:Type} (k0:Int→Option R):Option R :=
 (g.z7z a1 (fun r3=>(bif (r3 != 0) then k0 r3 else (g.z55z a2 (fun r4=>(bif (!r4) then k0 1 else k0 0))))))
noncomputable def yCby [Fuel]:C_z77z:=⟨NN,@z7z _,@z55z _⟩
noncomputable def z77z [Fuel]:yu6y:=@z77z_ yCby
def ynqy (g:yu6y):Spec A:=fun args=>match args with | [.d (.sl 71 a1),.d (.int .i64 a2)]=>fun k=>g a1 a2 (fun z0=>k (.d (.int .i64 z0)) [.undef,.undef]) | _=>fun _=>none
noncomputable def yCEy:Code:=(Tryz.f207.body).getD .skip
noncomputable def yISy (g:C_z77z):Env A:=mkE [(107,yjAy g.z7z),(133,yhTy g.z55z)] [] [] [] [] [] [] [] [] []
theorem yHRy (g:C_z77z):Same (ynqy (@z77z_ g)) (abody (yISy g) Tryz.f207 yCEy 0 [] [.asis] g.N):=by intro args;unfold ynqy;split;exact .inr fun R k=>(by kernel_rfl);exact .inl fun R k=>rfl
theorem yGXy [Fuel]:Ok 207 (ynqy (@z77z _)):=yacy std (.cons yl6y (.cons yrzy .nil)) ⟨rfl,rfl,by kernel_rfl,rfl,rfl,rfl⟩ (yHRy yCby) (cuts0 (fun _=>rfl) (by kernel_rfl)) Tryz.func207 (by kernel_rfl) (by kernel_rfl)
abbrev ytKy:Type 1:=List G_Deed→{R:Type}→(List G_Deed→Option R)→Option R
def z71z_ (g:Nat) (a1:List G_Deed) {R:Type} (k0:List G_Deed→Option R):Option R :=
 k0 a1
noncomputable def z71z [Fuel]:ytKy:=@z71z_ NN
def ynZy (g:ytKy):Spec A:=fun args=>match args with | [.d (.sl 71 a1)]=>fun k=>g a1 (fun z0=>k (.fn 323 [.box [.d (.sl 71 z0)]]) [.undef]) | _=>fun _=>none
noncomputable def yCFy:Code:=(Tryz.f298.body).getD .skip
noncomputable def yJxy (g:Nat):Env A:=mkE [] [(1,[0])] [] [] [] [] [] [] [] []
theorem yFKy (g:Nat):Same (ynZy (@z71z_ g)) (abody (yJxy g) Tryz.f298 yCFy 1 [] [.asis] g):=by intro args;unfold ynZy;split;exact .inr fun R k=>(by kernel_rfl);exact .inl fun R k=>rfl
theorem yyay [Fuel]:Ok 298 (ynZy (@z71z _)):=yacy std .nil ⟨rfl,rfl,by kernel_rfl,rfl,rfl,rfl⟩ (yFKy NN) (cuts0 (fun _=>rfl) (by kernel_rfl)) Tryz.func298 (by kernel_rfl) (by kernel_rfl)
abbrev yu7y:Type 1:=List Int→{R:Type}→(List Int→Option R)→Option R
def z35z_L1 (g:Nat):Nat→Int→Int→List Int→{R:Type}→(List Int→Option R)→Option R
 | 0,_,_,_,_,_=>none
 | n + 1,v2,v3,v4,_,e0=>(bif (decide (v2 < v3)) then (inr v4 v3 (at_ v4 v3 fun x9=>(inr v4 v2 (at_ v4 v2 fun x10=>(inr v4 v2 (at_ v4 v2 fun x11=>(inr (set_ v4 v2 x9) v3 (at_ (set_ v4 v2 x9) v3 fun x12=>z35z_L1 g n (w64 (v2 + 1)) (w64 (v3 - 1)) (set_ (set_ v4 v2 x9) v3 x10) e0)))))))) else e0 v4)
def z35z_ (g:Nat) (a1:List Int) {R:Type} (k0:List Int→Option R):Option R :=
 (z35z_L1 g g 0 (w64 ((a1.length:Int) - 1)) a1 (fun e13=>k0 e13))
noncomputable def z35z [Fuel]:yu7y:=@z35z_ NN
def yody (g:yu7y):Spec A:=fun args=>match args with | [.arr 3 a1]=>fun k=>g a1 (fun z0=>k (.tup []) [.arr 3 z0]) | _=>fun _=>none
def ykXy:SSt:=mkSh 28 1 [(0,.own 3 0),(2,.int .i64),(3,.int .i64)] [(0,.row 3)]
def yfry (g:Nat) (n:Nat):LPT A:=fun ps=>match ps with | [.d (.int .i64 p1),.d (.int .i64 p2),.d (.sl 3 p3)]=>fun K=>z35z_L1 g n p1 p2 p3 (fun z0=>K (.exit 0) (mkSt 28 1 [(0,.own 3 0)] [(0,some (.row 3 z0))])) | _=>fun _=>none
noncomputable def yvYy:Code:=(Tryz.f299.body).getD .skip
noncomputable def yqOy (g:Nat):Env A:=mkE [] [] [(1,⟨[0,2,3],[],[0],[],[],[],[]⟩)] [(1,⟨[0],[],[0],[],[],[],[]⟩)] [(1,yajy ykXy (yfry g g))] [] [] [] [] [0]
theorem yGAy [Fuel]:yahy (yqOy NN).C:=ct_of (P:=Tryz.prog) (T:=T) .nil (by kernel_rfl)
noncomputable def yqdy:Code:=sub [1,0,0] yvYy
theorem yBcy (g:Nat) (n:Nat):yaCy (yqOy g) g yqdy ykXy (yfry g) n:=by intro ps;unfold yfry;split;exact .inr fun R K=>(by kernel_rfl);exact .inl fun R K=>rfl
theorem yzVy [Fuel]:yaiy (yqOy NN) NN yqdy:=yamy ykXy (yfry NN) (by kernel_rfl) yGAy (cuts0 (fun _=>rfl) (by kernel_rfl)) (fun ps R K=>by unfold yfry;split <;> (try unfold z35z_L1) <;> rfl) (yBcy NN)
theorem yG7y (g:Nat):Same (yody (@z35z_ g)) (abody (yqOy g) Tryz.f299 yvYy 1 [0] [] g):=by intro args;unfold yody;split;exact .inr fun R k=>(by kernel_rfl);exact .inl fun R k=>rfl
theorem yx4y [Fuel]:Ok 299 (yody (@z35z _)):=yacy std .nil ⟨rfl,rfl,by kernel_rfl,rfl,rfl,rfl⟩ (yG7y NN) (cutsL (fun _=>rfl) (.cons yzVy .nil) (by kernel_rfl)) Tryz.func299 (by kernel_rfl) (by kernel_rfl)
abbrev ytny:Type 1:=List G_Deed→Int→{R:Type}→(List Int→Option R)→Option R
structure C_z17z where
 N:Nat
 z71z:ytKy
 z35z:yu7y
def z17z_L6 (g:C_z17z):Nat→List G_Deed→Int→List (G_net_own×Bool)→List Int→{R:Type}→(Int→List (G_net_own×Bool)→List Int→Option R)→Option R
 | 0,y0,y1,y2,y3,_,e0=>e0 y1 y2 y3
 | n + 1,l7,v4,v5,v6,_,e0=>(match l7[n]? with | none=>none | some x8=>(bif (decide (x8.f_At > v4)) then z17z_L6 g n l7 v4 v5 v6 e0 else (bif ((yaFy (⟨x8.f_Site,x8.f_No⟩:G_net_own) v5).getD false) then z17z_L6 g n l7 v4 v5 v6 e0 else (bif (decide ((v6.length + [(n:Int)].length) * 8≤yaey)) then (bif (x8.f_Kind == 5) then z17z_L6 g n l7 v4 (yaMy (⟨x8.f_Of,x8.f_Other⟩:G_net_own) true v5) (v6++[(n:Int)]) e0 else z17z_L6 g n l7 v4 v5 (v6++[(n:Int)]) e0) else none))))
noncomputable def yksy (g:C_z17z) (a1:List G_Deed) (a2:Int) {R:Type} (k0:List Int→Option R):Option R :=
 (g.z71z a1 (fun r3=>(bif decide (r3.length < 4611686018427387904) then (z17z_L6 g r3.length r3 a2 [] [] (fun e9 e10 e11=>(g.z35z e11 (fun r12=>k0 r12)))) else none)))
def ymqy (p:IV A×List (IV A)):Option ((List Int)):=match p with | (.arr 3 b1,[.undef,.undef])=>some (b1) | _=>none
def ye6y (q:(List Int)):IV A×List (IV A):=(.arr 3 q,[.undef,.undef])
theorem yDBy (p:IV A×List (IV A)) (q:(List Int)) (h:ymqy p = some q):p = ye6y q:=by unfold ymqy at h;split at h;(cases h;rfl);cases h
noncomputable def z17z_ (g:C_z17z) (a1:List G_Deed) (a2:Int) {R:Type} (k0:List Int→Option R):Option R :=
 (yksy g a1 a2 (fun z0=>some (ye6y (z0)))).bind fun p=>(decK ymqy p (fun q=>k0 q) none)
noncomputable def ydDy [Fuel]:C_z17z:=⟨NN,@z71z _,@z35z _⟩
noncomputable def z17z [Fuel]:ytny:=@z17z_ ydDy
def yd7y (g:ytny):Spec A:=fun args=>match args with | [.d (.sl 71 a1),.d (.int .i64 a2)]=>fun k=>g a1 a2 (fun z0=>k (.arr 3 z0) [.undef,.undef]) | _=>fun _=>none
def yhqy:SSt:=mkSh 43 9 [(3,.ptr 0 0),(5,.ptr 2 0),(6,.ptr 3 0)] [(0,.box [.int .i64]),(1,.mp 182 4),(2,.box [.mp 1]),(3,.box [.own 3 5]),(5,.row 3)]
abbrev ycvy:Bw:=⟨323,62,71,3,4⟩
def yd9y (g:C_z17z) (n:Nat) (l:List (A (ycvy).tE)):LPT A:=fun ps=>match ps with | [.d (.int .i64 p1),.mp 182 4 p2,.d (.sl 3 p3)]=>fun K=>z17z_L6 g n l p1 p2 p3 (fun z0 z1 z2=>K .normal (mkSt 43 9 [(3,.ptr 0 0),(5,.ptr 2 0),(6,.ptr 3 0)] [(0,some (.box [.d (.int .i64 z0)])),(1,some (.mp 182 4 z1)),(2,some (.box [.mp 1])),(3,some (.box [.own 3 5])),(5,some (.row 3 z2))])) | _=>fun _=>none
noncomputable def yvUy:Code:=(Tryz.f257.body).getD .skip
noncomputable def yp2y (g:C_z17z):Env A:=mkE [(298,ynZy g.z71z),(299,yody g.z35z)] [(3,[0]),(5,[2]),(6,[3]),(8,[6]),(9,[1]),(11,[4]),(29,[7]),(30,[8])] [(6,⟨[3,5,6],[],[0,1,2,3],[(3,0,3,5)],[],[],[]⟩)] [(6,⟨[3,5,6],[],[0,1,2,3],[],[],[],[]⟩)] [] [] [] [] [(299,0)] []
noncomputable def yyly (g:C_z17z):Nat→Option (Nat→ybZy A (ycvy).tE):=fun i=>List.lookup i [(0,yALy (ycvy).tE yhqy (yd9y g))]
def yrly:Nat→List Nat:=fun i=>(List.lookup i [(0,[3,5,6])]).getD []
theorem ct_z17z [Fuel]:yahy (yp2y ydDy).C:=ct_of (P:=Tryz.prog) (T:=T) (.cons yyay (.cons yx4y .nil)) (by kernel_rfl)
noncomputable def ywSy:BwP:=(bwP Tryz.f323.body).get (by kernel_rfl)
theorem ywCy:BwFine Tryz.prog T ycvy:=⟨yGzy (fn:=Tryz.f323) Tryz.func323 ywSy (by kernel_rfl) (by kernel_rfl) (by kernel_rfl) (by kernel_rfl) (by kernel_rfl) (by kernel_rfl) (by kernel_rfl) (by kernel_rfl) (by kernel_rfl),enters_of (fn:=Tryz.f323) Tryz.func323 (by kernel_rfl) (by kernel_rfl),by kernel_rfl,by kernel_rfl,fun x=>by kernel_rfl⟩
noncomputable def yk9y:RfP:=(rfOf (sub [1,1,1,0] yvUy)).get (by kernel_rfl)
theorem yBty (g:C_z17z):yx6y (ycvy).tE yhqy (yd9y g):=by intro xs ps;unfold yd9y;split;exact .inr fun R K=>(by kernel_rfl);exact .inl fun R K=>rfl
theorem yBFy (g:C_z17z) (i:Nat):yyIy (yp2y g) g.N (yrly (yk9y).B) yk9y (ycvy).tE yhqy (yd9y g) i:=by intro xs ps;unfold yd9y;split;exact .inr fun R K=>(by kernel_rfl);exact .inl fun R K=>rfl
theorem yzGy [Fuel]:BOk (yp2y ydDy) ycvy (yyly ydDy) yrly NN yk9y:=yBVy yhqy (yd9y ydDy) (by kernel_rfl) (cuts0 (fun _=>rfl) (by kernel_rfl)) (cuts0 (fun _=>rfl) (by kernel_rfl)) (yBty ydDy) (yBFy ydDy)
theorem yG4y (g:C_z17z):Same (yd7y (@yksy g)) (ymBy (yp2y g) ycvy (yyly g) yrly Tryz.f257 yvUy 9 [] [.arr 3] g.N):=by intro args;unfold yd7y;split;exact .inr fun R k=>(by kernel_rfl);exact .inl fun R k=>rfl
theorem yGiy (g:C_z17z):Whole (yd7y (@z17z_ g)) (yd7y (@yksy g)):=by
 intro args R k res h
 unfold yd7y at h
 split at h
 ·obtain ⟨p,hp,h⟩:=Option.bind_eq_some_iff.1 h
  exact ⟨p,hp,(yyky (inj:=ye6y) yDBy (fun h=>(by cases h)) h)⟩
 ·cases h
theorem yGmy (g:C_z17z):yaIy (yd7y (@z17z_ g)):=by
 intro args R k
 unfold yd7y
 split
 ·unfold z17z_
  rw [Option.bind_assoc]
  exact congrArg (Option.bind _) (funext fun p=>(yyty (inj:=ye6y) rfl))
 ·rfl
theorem yyNy [Fuel]:Ok 257 (yd7y (@z17z _)):=yIky std (.cons yyay (.cons yx4y .nil)) ⟨rfl,rfl,by kernel_rfl,rfl,rfl,rfl⟩ ywCy (yG4y ydDy) (yGiy ydDy) (yGmy ydDy) (cutsB (fun _=>rfl) .nil (.cons yzGy .nil) (by kernel_rfl) (by kernel_rfl)) Tryz.func257 (by kernel_rfl) (by kernel_rfl)
abbrev ymDy:Type 1:=G_Contact→{R:Type}→(G_Contact→Option R)→Option R
def ytTy (g:Nat) (a1:G_Contact) {R:Type} (k0:G_Contact→Option R):Option R :=
 k0 (⟨a1.f_At,a1.f_Mode,a1.f_Band,a1.f_Call,0,0,[],[]⟩:G_Contact)
noncomputable def net_key [Fuel]:ymDy:=@ytTy NN
def yhty (g:ymDy):Spec A:=fun args=>match args with | [.agg [.d (.int .i64 a1),.d (.int .i64 a2),.d (.str a3),.d (.str a4),.d (.int .i64 a5),.d (.int .i64 a6),.d (.str a7),.d (.str a8)]]=>fun k=>g ⟨a1,a2,a3,a4,a5,a6,a7,a8⟩ (fun z0=>k (.agg [.d (.int .i64 z0.f_At),.d (.int .i64 z0.f_Mode),.d (.str z0.f_Band),.d (.str z0.f_Call),.d (.int .i64 z0.f_Sent),.d (.int .i64 z0.f_Heard),.d (.str z0.f_Gave),.d (.str z0.f_Got)]) [.undef]) | _=>fun _=>none
noncomputable def yDoy:Code:=(Tryz.f258.body).getD .skip
noncomputable def yAOy (g:Nat):Env A:=mkE [] [(1,[0]),(2,[1])] [] [] [] [] [] [] [] []
theorem yzFy (g:Nat):Same (yhty (@ytTy g)) (abody (yAOy g) Tryz.f258 yDoy 2 [] [.asis] g):=by intro args;unfold yhty;split;exact .inr fun R k=>(by kernel_rfl);exact .inl fun R k=>rfl
theorem yqMy [Fuel]:Ok 258 (yhty (@net_key _)):=yacy std .nil ⟨rfl,rfl,by kernel_rfl,rfl,rfl,rfl⟩ (yzFy NN) (cuts0 (fun _=>rfl) (by kernel_rfl)) Tryz.func258 (by kernel_rfl) (by kernel_rfl)
abbrev yAYy:Type 1:=G_Contact→G_Contact→{R:Type}→(Int→Option R)→Option R
structure C_z41z where
 N:Nat
 strings_Compare:yb8y
 z32z:yqJy
 z34z:yqwy
def z41z_ (g:C_z41z) (a1 a2:G_Contact) {R:Type} (k0:Int→Option R):Option R :=
 (g.z34z a1.f_At a2.f_At (fun r3=>(g.strings_Compare a1.f_Call a2.f_Call (fun r4=>(g.strings_Compare a1.f_Band a2.f_Band (fun r5=>(g.z34z a1.f_Mode a2.f_Mode (fun r6=>(g.z32z [r3,r4,r5,r6] (fun r7=>k0 r7))))))))))
noncomputable def ytFy [Fuel]:C_z41z:=⟨NN,@strings_Compare _,@z32z _,@z34z _⟩
noncomputable def z41z [Fuel]:yAYy:=@z41z_ ytFy
def ygfy (g:yAYy):Spec A:=fun args=>match args with | [.agg [.d (.int .i64 a1),.d (.int .i64 a2),.d (.str a3),.d (.str a4),.d (.int .i64 a5),.d (.int .i64 a6),.d (.str a7),.d (.str a8)],.agg [.d (.int .i64 a9),.d (.int .i64 a10),.d (.str a11),.d (.str a12),.d (.int .i64 a13),.d (.int .i64 a14),.d (.str a15),.d (.str a16)]]=>fun k=>g ⟨a1,a2,a3,a4,a5,a6,a7,a8⟩ ⟨a9,a10,a11,a12,a13,a14,a15,a16⟩ (fun z0=>k (.d (.int .i64 z0)) [.undef,.undef]) | _=>fun _=>none
noncomputable def yuDy:Code:=(Tryz.f121.body).getD .skip
noncomputable def yI2y (g:C_z41z):Env A:=mkE [(118,ybCy g.strings_Compare),(168,yecy g.z32z),(169,yd5y g.z34z)] [(2,[0]),(3,[1]),(25,[2])] [] [] [] [] [] [] [] []
theorem yFQy (g:C_z41z):Same (ygfy (@z41z_ g)) (abody (yI2y g) Tryz.f121 yuDy 3 [] [.asis] g.N):=by intro args;unfold ygfy;split;exact .inr fun R k=>(by kernel_rfl);exact .inl fun R k=>rfl
theorem ok_z41z [Fuel]:Ok 121 (ygfy (@z41z _)):=yacy std (.cons ydAy (.cons yyDy (.cons yyLy .nil))) ⟨rfl,rfl,by kernel_rfl,rfl,rfl,rfl⟩ (yFQy ytFy) (cuts0 (fun _=>rfl) (by kernel_rfl)) Tryz.func121 (by kernel_rfl) (by kernel_rfl)
noncomputable def yHuy (g:C_z41z):Env A:=mkED [(118,ybCy g.strings_Compare),(168,yecy g.z32z),(169,yd5y g.z34z)] [(2,[0]),(3,[1]),(25,[2])] [] [] [] [] [] [] [] []
theorem yC4y (g:C_z41z):Same (ygfy (@z41z_ g)) (abody (yHuy g) Tryz.f121 yuDy 3 [] [.asis] g.N):=by intro args;unfold ygfy;split;exact .inr fun R k=>(by kernel_rfl);exact .inl fun R k=>rfl
theorem yugy [Fuel]:OkD 121 (ygfy (@z41z _)):=yacy stdD (.cons ylQy (.cons yEpy (.cons yEky .nil))) ⟨rfl,rfl,by kernel_rfl,rfl,rfl,rfl⟩ (yC4y ytFy) (cuts0 (fun _=>rfl) (by kernel_rfl)) Tryz.func121 (by kernel_rfl) (by kernel_rfl)
end Go.Am
