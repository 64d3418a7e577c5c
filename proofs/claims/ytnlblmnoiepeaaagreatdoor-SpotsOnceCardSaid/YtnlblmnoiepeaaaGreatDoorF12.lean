/- The functions of the program as Lean functions, each shown to be what the code computes, part 12. No condition: lemmas for the claim. -/
import Derived.Test.YtnlblmnoiepeaaaGreatDoorF0
import Derived.Test.YtnlblmnoiepeaaaGreatDoorFSh
import Derived.Test.YtnlblmnoiepeaaaGreatDoorF8
import Derived.Test.YtnlblmnoiepeaaaGreatDoorF9
import Derived.Test.YtnlblmnoiepeaaaGreatDoorF10
import Derived.Test.YtnlblmnoiepeaaaGreatDoorF11
set_option linter.unusedVariables false
set_option maxRecDepth 100000
namespace Go.Am
open Go Go.Proofs
abbrev yv4y:Type 1:=List G_Deed→Int→{R:Type}→(Int→Option R)→(List G_Deed→List G_Contact→List (List UInt8)→List Int→List (G_net_own×Bool)→Int→Option R)→Option R
structure C_z39z where
 N:Nat
 z24z:ywwy
 net_key:ynsy
 z50z:yx6y
def z39z_L4 (g:C_z39z):Nat→List G_Deed→Int→Int→List (G_net_own×Bool)→List (G_Contact×G_Deed)→List Int→List G_Deed→List G_Contact→List (List UInt8)→List Int→{R:Type}→(List (G_net_own×Bool)→List (G_Contact×G_Deed)→List G_Deed→List G_Contact→List (List UInt8)→List Int→Option R)→Option R
 | 0,_,_,_,_,_,_,_,_,_,_,_,_=>none
 | n + 1,v4,v5,v6,v7,v8,v9,v10,v11,v12,v13,_,e0=>(bif (decide (v6 < v5)) then (inr v9 v6 (at_ v9 v6 fun x26=>(get_ v4 x26 fun x27=>(bif (decide ((v10.length + [x27].length) * 176≤yaly)) then (bif (x27.f_Kind == 3) then (bif (x27.f_Kind != 1) then z39z_L4 g n v4 v5 (w64 (v6 + 1)) (ya9y (⟨x27.f_Site,x27.f_Contact.f_Sent⟩:G_net_own) true v7) v8 v9 (v10 ++ [x27]) v11 v12 v13 e0 else (g.net_key x27.f_Contact (fun r28=>(bif (yaMy r28 v8).isSome then (bif (decide ((v13.length + [x26].length) * 8≤yaly)) then z39z_L4 g n v4 v5 (w64 (v6 + 1)) (ya9y (⟨x27.f_Site,x27.f_Contact.f_Sent⟩:G_net_own) true v7) v8 v9 (v10 ++ [x27]) v11 v12 (v13 ++ [x26]) e0 else none) else (g.net_key x27.f_Contact (fun r29=>(bif (decide ((v11.length + [x27.f_Contact].length) * 96≤yaly)) then z39z_L4 g n v4 v5 (w64 (v6 + 1)) (ya9y (⟨x27.f_Site,x27.f_Contact.f_Sent⟩:G_net_own) true v7) (ya8y r29 x27 v8) v9 (v10 ++ [x27]) (v11 ++ [x27.f_Contact]) v12 v13 e0 else none))))))) else (bif (x27.f_Kind == 4) then (bif (x27.f_Kind == 4) then (bif (x27.f_Kind != 1) then z39z_L4 g n v4 v5 (w64 (v6 + 1)) (yaSy (⟨x27.f_Site,x27.f_Contact.f_Sent⟩:G_net_own) v7) v8 v9 (v10 ++ [x27]) v11 v12 v13 e0 else (g.net_key x27.f_Contact (fun r30=>(bif (yaMy r30 v8).isSome then (bif (decide ((v13.length + [x26].length) * 8≤yaly)) then z39z_L4 g n v4 v5 (w64 (v6 + 1)) (yaSy (⟨x27.f_Site,x27.f_Contact.f_Sent⟩:G_net_own) v7) v8 v9 (v10 ++ [x27]) v11 v12 (v13 ++ [x26]) e0 else none) else (g.net_key x27.f_Contact (fun r31=>(bif (decide ((v11.length + [x27.f_Contact].length) * 96≤yaly)) then z39z_L4 g n v4 v5 (w64 (v6 + 1)) (yaSy (⟨x27.f_Site,x27.f_Contact.f_Sent⟩:G_net_own) v7) (ya8y r31 x27 v8) v9 (v10 ++ [x27]) (v11 ++ [x27.f_Contact]) v12 v13 e0 else none))))))) else (bif (x27.f_Kind != 1) then z39z_L4 g n v4 v5 (w64 (v6 + 1)) v7 v8 v9 (v10 ++ [x27]) v11 v12 v13 e0 else (g.net_key x27.f_Contact (fun r32=>(bif (yaMy r32 v8).isSome then (bif (decide ((v13.length + [x26].length) * 8≤yaly)) then z39z_L4 g n v4 v5 (w64 (v6 + 1)) v7 v8 v9 (v10 ++ [x27]) v11 v12 (v13 ++ [x26]) e0 else none) else (g.net_key x27.f_Contact (fun r33=>(bif (decide ((v11.length + [x27.f_Contact].length) * 96≤yaly)) then z39z_L4 g n v4 v5 (w64 (v6 + 1)) v7 (ya8y r33 x27 v8) v9 (v10 ++ [x27]) (v11 ++ [x27.f_Contact]) v12 v13 e0 else none)))))))) else (bif (x27.f_Kind == 1) then (bif (x27.f_Kind != 1) then z39z_L4 g n v4 v5 (w64 (v6 + 1)) (yaSy (⟨x27.f_Site,x27.f_Contact.f_Sent⟩:G_net_own) v7) v8 v9 (v10 ++ [x27]) v11 v12 v13 e0 else (g.net_key x27.f_Contact (fun r34=>(bif (yaMy r34 v8).isSome then (bif (decide ((v13.length + [x26].length) * 8≤yaly)) then z39z_L4 g n v4 v5 (w64 (v6 + 1)) (yaSy (⟨x27.f_Site,x27.f_Contact.f_Sent⟩:G_net_own) v7) v8 v9 (v10 ++ [x27]) v11 v12 (v13 ++ [x26]) e0 else none) else (g.net_key x27.f_Contact (fun r35=>(bif (decide ((v11.length + [x27.f_Contact].length) * 96≤yaly)) then z39z_L4 g n v4 v5 (w64 (v6 + 1)) (yaSy (⟨x27.f_Site,x27.f_Contact.f_Sent⟩:G_net_own) v7) (ya8y r35 x27 v8) v9 (v10 ++ [x27]) (v11 ++ [x27.f_Contact]) v12 v13 e0 else none))))))) else (bif (x27.f_Kind != 1) then z39z_L4 g n v4 v5 (w64 (v6 + 1)) v7 v8 v9 (v10 ++ [x27]) v11 v12 v13 e0 else (g.net_key x27.f_Contact (fun r36=>(bif (yaMy r36 v8).isSome then (bif (decide ((v13.length + [x26].length) * 8≤yaly)) then z39z_L4 g n v4 v5 (w64 (v6 + 1)) v7 v8 v9 (v10 ++ [x27]) v11 v12 (v13 ++ [x26]) e0 else none) else (g.net_key x27.f_Contact (fun r37=>(bif (decide ((v11.length + [x27.f_Contact].length) * 96≤yaly)) then z39z_L4 g n v4 v5 (w64 (v6 + 1)) v7 (ya8y r37 x27 v8) v9 (v10 ++ [x27]) (v11 ++ [x27.f_Contact]) v12 v13 e0 else none)))))))))) else none)))) else e0 v7 v8 v10 v11 v12 v13)
def z39z_L25 (g:C_z39z):Nat→Int→Int→List (G_net_own×Bool)→List (G_Contact×G_Deed)→List G_Deed→List G_Contact→List (List UInt8)→List Int→{R:Type}→(List (G_net_own×Bool)→List G_Deed→List G_Contact→List (List UInt8)→List Int→Option R)→Option R
 | 0,_,_,_,_,_,_,_,_,_,_=>none
 | n + 1,v45,v46,v47,v48,v49,v50,v51,v52,_,e0=>(bif (decide (v46 < v45)) then (inr v50 v46 (at_ v50 v46 fun x55=>(g.net_key x55 (fun r56=>(bif (decide ((v51.length + [((yaMy r56 v48).getD (⟨[],0,0,0,(⟨0,0,[],[],0,0,[],[]⟩:G_Contact),[],[],0⟩:G_Deed)).f_Site].length) * 16≤yaly)) then z39z_L25 g n v45 (w64 (v46 + 1)) v47 v48 v49 v50 (v51 ++ [((yaMy r56 v48).getD (⟨[],0,0,0,(⟨0,0,[],[],0,0,[],[]⟩:G_Contact),[],[],0⟩:G_Deed)).f_Site]) v52 e0 else none))))) else e0 v47 v49 v50 v51 v52)
def z39z_ (g:C_z39z) (a1:List G_Deed) (a2:Int) {R:Type} (k0:Int→Option R) (k1:List G_Deed→List G_Contact→List (List UInt8)→List Int→List (G_net_own×Bool)→Int→Option R):Option R :=
 (g.z24z a1 a2 (fun r3=>(z39z_L4 g g.N a1 (r3.length:Int) 0 [] [] r3 [] [] [] [] (fun e38 e39 e40 e41 e42 e43=>(bif (decide ((e41.length:Int) > 2000)) then k0 2 else (g.z50z e41 (fun r44=>(z39z_L25 g g.N (r44.length:Int) 0 e38 e39 e40 r44 e42 e43 (fun e57 e58 e59 e60 e61=>k1 e58 e59 e60 e61 e57 0)))))))))
noncomputable def yccy [Fuel]:C_z39z:=⟨NN,@z24z _,@net_key _,@z50z _⟩
noncomputable def z39z [Fuel]:yv4y:=@z39z_ yccy
def yoNy (g:yv4y):Spec A:=fun args=>match args with | [.d (.sl 93 a1),.d (.int .i64 a2)]=>fun k=>g a1 a2 (fun z0=>k (.tup [.d (.lit (.pointer none)),.d (.int .i64 z0)]) [.undef,.undef]) (fun z0 z1 z2 z3 z4 z5=>k (.tup [.box [.arr 93 z0,.arr 38 z1,.arr 9 z2,.arr 3 z3,.mp 225 4 z4],.d (.int .i64 z5)]) [.undef,.undef]) | _=>fun _=>none
def ylxy:SSt:=mkSh 143 23 [(0,.sl 93),(6,.ptr 1 0),(7,.mp 2),(21,.own 3 3),(22,.int .i64),(23,.int .i64)] [(0,.mp 225 4),(1,.box [.own 93 4,.own 38 5,.own 9 6,.own 3 7,.mp 0]),(2,.mp 38 93),(3,.row 3),(4,.row 93),(5,.row 38),(6,.row 9),(7,.row 3)]
def yfXy (g:C_z39z) (n:Nat):LPT A:=fun ps=>match ps with | [.d (.sl 93 p1),.d (.int .i64 p2),.d (.int .i64 p3),.mp 225 4 p4,.mp 38 93 p5,.d (.sl 3 p6),.d (.sl 93 p7),.d (.sl 38 p8),.d (.sl 9 p9),.d (.sl 3 p10)]=>fun K=>z39z_L4 g n p1 p2 p3 p4 p5 p6 p7 p8 p9 p10 (fun z0 z1 z2 z3 z4 z5=>K (.exit 0) (mkSt 143 23 [(6,.ptr 1 0),(7,.mp 2)] [(0,some (.mp 225 4 z0)),(1,some (.box [.own 93 4,.own 38 5,.own 9 6,.own 3 7,.mp 0])),(2,some (.mp 38 93 z1)),(4,some (.row 93 z2)),(5,some (.row 38 z3)),(6,some (.row 9 z4)),(7,some (.row 3 z5))])) | _=>fun _=>none
def yjdy:SSt:=mkSh 143 23 [(6,.ptr 1 0),(7,.mp 2),(121,.own 38 17),(122,.int .i64),(123,.int .i64)] [(0,.mp 225 4),(1,.box [.own 93 16,.own 38 17,.own 9 18,.own 3 19,.mp 0]),(2,.mp 38 93),(16,.row 93),(17,.row 38),(18,.row 9),(19,.row 3)]
def yd1y (g:C_z39z) (n:Nat):LPT A:=fun ps=>match ps with | [.d (.int .i64 p1),.d (.int .i64 p2),.mp 225 4 p3,.mp 38 93 p4,.d (.sl 93 p5),.d (.sl 38 p6),.d (.sl 9 p7),.d (.sl 3 p8)]=>fun K=>z39z_L25 g n p1 p2 p3 p4 p5 p6 p7 p8 (fun z0 z1 z2 z3 z4=>K (.exit 3) (mkSt 143 23 [(6,.ptr 1 0)] [(0,some (.mp 225 4 z0)),(1,some (.box [.own 93 16,.own 38 17,.own 9 18,.own 3 19,.mp 0])),(16,some (.row 93 z1)),(17,some (.row 38 z2)),(18,some (.row 9 z3)),(19,some (.row 3 z4))])) | _=>fun _=>none
noncomputable def yqyy:Code:=(Tryz.f136.body).getD .skip
noncomputable def ykmy (g:C_z39z):Env A:=mkE [(180,ydOy g.z24z),(181,yhJy g.net_key),(182,ykdy g.z50z)] [(10,[8]),(11,[11]),(14,[20]),(15,[0]),(17,[1]),(18,[2]),(21,[3]),(37,[9]),(38,[10]),(86,[12]),(87,[13]),(102,[14]),(103,[15]),(137,[21]),(138,[22])] [(4,⟨[0,6,7,21,22,23],[],[0,1,2,3],[(1,0,93,4),(1,1,38,5),(1,2,9,6),(1,3,3,7)],[],[],[]⟩),(25,⟨[6,7,121,122,123],[],[0,1,2],[(1,0,93,16),(1,1,38,17),(1,2,9,18),(1,3,3,19)],[],[],[]⟩)] [(4,⟨[6,7],[],[0,1,2,4,5,6,7],[],[],[],[]⟩),(25,⟨[6],[],[0,1,16,17,18,19],[],[],[],[]⟩)] [(4,yafy ylxy (yfXy g g.N)),(25,yafy yjdy (yd1y g g.N))] [] [] [] [(182,0)] []
theorem yBJy [Fuel]:yahy (ykmy yccy).C:=ct_of (P:=Tryz.prog) (T:=T) (.cons yBsy (.cons yq2y (.cons yAPy .nil))) (by kernel_rfl)
noncomputable def yqSy:Code:=sub [1,1,1,0,1,0,0] yqyy
theorem yEHy (g:C_z39z) (n:Nat):yaky (ykmy g) g.N yqSy ylxy (yfXy g) n:=by intro ps; unfold yfXy; split; exact .inr fun R K=>(by kernel_rfl); exact .inl fun R K=>rfl
theorem yDEy [Fuel]:yacy (ykmy yccy) NN yqSy:=yaey ylxy (yfXy yccy) (by kernel_rfl) yBJy (cuts0 (fun _=>rfl) (by kernel_rfl)) (fun ps R K=>by unfold yfXy; split <;> (try unfold z39z_L4) <;> rfl) (yEHy yccy)
noncomputable def ypPy:Code:=sub [1,1,1,1,1,1,0,1,0,0] yqyy
theorem yDgy (g:C_z39z) (n:Nat):yaky (ykmy g) g.N ypPy yjdy (yd1y g) n:=by intro ps; unfold yd1y; split; exact .inr fun R K=>(by kernel_rfl); exact .inl fun R K=>rfl
theorem yAly [Fuel]:yacy (ykmy yccy) NN ypPy:=yaey yjdy (yd1y yccy) (by kernel_rfl) yBJy (cuts0 (fun _=>rfl) (by kernel_rfl)) (fun ps R K=>by unfold yd1y; split <;> (try unfold z39z_L25) <;> rfl) (yDgy yccy)
theorem yJ9y (g:C_z39z):Same (yoNy (@z39z_ g)) (abody (ykmy g) Tryz.f136 yqyy 23 [] [.asis,.asis] g.N):=by intro args; unfold yoNy; split; exact .inr fun R k=>(by kernel_rfl); exact .inl fun R k=>rfl
theorem yLWy [Fuel]:Ok 136 (yoNy (@z39z _)):=yaay std (.cons yBsy (.cons yq2y (.cons yAPy .nil))) ⟨rfl,rfl,by kernel_rfl,rfl,rfl,rfl⟩ (yJ9y yccy) (cutsL (fun _=>rfl) (.cons yDEy (.cons yAly .nil)) (by kernel_rfl)) Tryz.func136 (by kernel_rfl) (by kernel_rfl)
abbrev yy2y:Type 1:=List G_Deed→Int→{R:Type}→(Int→Option R)→(List G_Deed→List G_Contact→List (List UInt8)→List Int→List (G_net_own×Bool)→Int→Option R)→Option R
structure C_z90z where
 N:Nat
 z94z:yw7y
 z39z:yv4y
def z90z_ (g:C_z90z) (a1:List G_Deed) (a2:Int) {R:Type} (k0:Int→Option R) (k1:List G_Deed→List G_Contact→List (List UInt8)→List Int→List (G_net_own×Bool)→Int→Option R):Option R :=
 (g.z94z a1 a2 (fun r3=>(bif (r3 != 0) then k0 r3 else (g.z39z a1 a2 (fun r4=>k0 r4) (fun r5 r6 r7 r8 r9 r10=>k1 r5 r6 r7 r8 r9 r10)))))
noncomputable def yrEy [Fuel]:C_z90z:=⟨NN,@z94z _,@z39z _⟩
noncomputable def z90z [Fuel]:yy2y:=@z90z_ yrEy
def yoJy (g:yy2y):Spec A:=fun args=>match args with | [.d (.sl 93 a1),.d (.int .i64 a2)]=>fun k=>g a1 a2 (fun z0=>k (.tup [.d (.lit (.pointer none)),.d (.int .i64 z0)]) [.undef,.undef]) (fun z0 z1 z2 z3 z4 z5=>k (.tup [.box [.arr 93 z0,.arr 38 z1,.arr 9 z2,.arr 3 z3,.mp 225 4 z4],.d (.int .i64 z5)]) [.undef,.undef]) | _=>fun _=>none
noncomputable def yM9y:Code:=(Tryz.f87.body).getD .skip
noncomputable def yOJy (g:C_z90z):Env A:=mkE [(135,yn8y g.z94z),(136,yoNy g.z39z)] [(15,[0,1,2,3,4,5])] [] [] [] [] [] [] [] []
theorem yLmy (g:C_z90z):Same (yoJy (@z90z_ g)) (abody (yOJy g) Tryz.f87 yM9y 6 [] [.asis,.asis] g.N):=by intro args; unfold yoJy; split; exact .inr fun R k=>(by kernel_rfl); exact .inl fun R k=>rfl
theorem yJ8y [Fuel]:Ok 87 (yoJy (@z90z _)):=yaay std (.cons yLHy (.cons yLWy .nil)) ⟨rfl,rfl,by kernel_rfl,rfl,rfl,rfl⟩ (yLmy yrEy) (cuts0 (fun _=>rfl) (by kernel_rfl)) Tryz.func87 (by kernel_rfl) (by kernel_rfl)
abbrev yv1y:Type 1:={R:Type}→Option R
def z91z_ (g:Nat)  {R:Type}  : Option R :=
 none
noncomputable def z91z [Fuel]:yv1y:=@z91z_ NN
def yn1y (g:yv1y):Spec A:=fun args=>match args with | [.d (.lit (.pointer none))]=>fun k=>g | _=>fun _=>none
noncomputable def ylry:Code:=(Tryz.f137.body).getD .skip
noncomputable def yFjy (g:Nat):Env A:=mkE [] [(6,[0])] [] [] [] [] [] [] [] []
noncomputable def yDpy:Code:=sub [1,1,0,1,0,0] ylry
theorem yCIy [Fuel]:yacy (yFjy NN) NN yDpy:=yooy (by kernel_rfl)
theorem yKQy (g:Nat):Same (yn1y (@z91z_ g)) (abody (yFjy g) Tryz.f137 ylry 1 [] [.asis] g):=by intro args; unfold yn1y; split; exact .inr fun R k=>(by kernel_rfl); exact .inl fun R k=>rfl
theorem yL9y [Fuel]:Ok 137 (yn1y (@z91z _)):=yaay std .nil ⟨rfl,rfl,by kernel_rfl,rfl,rfl,rfl⟩ (yKQy NN) (cutsL (fun _=>rfl) (.cons yCIy .nil) (by kernel_rfl)) Tryz.func137 (by kernel_rfl) (by kernel_rfl)
abbrev yyzy:Type 1:={R:Type}→Option R
structure C_z75z where
 N:Nat
 z91z:yv1y
def z75z_ (g:C_z75z)  {R:Type}  : Option R :=
 (g.z91z)
noncomputable def ywoy [Fuel]:C_z75z:=⟨NN,@z91z _⟩
noncomputable def z75z [Fuel]:yyzy:=@z75z_ ywoy
def yoyy (g:yyzy):Spec A:=fun args=>match args with | [.d (.lit (.pointer none))]=>fun k=>g | _=>fun _=>none
noncomputable def yn6y:Code:=(Tryz.f88.body).getD .skip
noncomputable def yFvy (g:C_z75z):Env A:=mkE [(137,yn1y g.z91z)] [] [] [] [] [] [] [] [] []
noncomputable def yDby:Code:=sub [1,1,0,1,0,0] yn6y
theorem yCZy [Fuel]:yacy (yFvy ywoy) NN yDby:=yooy (by kernel_rfl)
theorem yMey (g:C_z75z):Same (yoyy (@z75z_ g)) (abody (yFvy g) Tryz.f88 yn6y 0 [] [.asis,.asis] g.N):=by intro args; unfold yoyy; split; exact .inr fun R k=>(by kernel_rfl); exact .inl fun R k=>rfl
theorem yKey [Fuel]:Ok 88 (yoyy (@z75z _)):=yaay std (.cons yL9y .nil) ⟨rfl,rfl,by kernel_rfl,rfl,rfl,rfl⟩ (yMey ywoy) (cutsL (fun _=>rfl) (.cons yCZy .nil) (by kernel_rfl)) Tryz.func88 (by kernel_rfl) (by kernel_rfl)
abbrev yx7y:Type 1:=List G_Deed→List G_Contact→List (List UInt8)→List Int→List (G_net_own×Bool)→{R:Type}→(List (Int×Int)→List G_Deed→List G_Contact→List (List UInt8)→List Int→List (G_net_own×Bool)→Option R)→Option R
def z46z_L3 (g:Nat):Nat→Int→Int→List (G_net_own×Bool)→List (Int×Int)→List G_Deed→List G_Contact→List (List UInt8)→List Int→{R:Type}→(List (G_net_own×Bool)→List (Int×Int)→List G_Deed→List G_Contact→List (List UInt8)→List Int→Option R)→Option R
 | 0,_,_,_,_,_,_,_,_,_,_=>none
 | n + 1,v6,v7,v8,v9,v10,v11,v12,v13,_,e0=>(bif (decide (v7 < v6)) then (inr v11 v7 (at_ v11 v7 fun x15=>(bif (decide (x15.f_Sent > 0)) then z46z_L3 g n v6 (w64 (v7 + 1)) v8 (yduy x15.f_Sent (w64 (((ycby x15.f_Sent v9).getD 0) + 1)) v9) v10 v11 v12 v13 e0 else z46z_L3 g n v6 (w64 (v7 + 1)) v8 v9 v10 v11 v12 v13 e0))) else e0 v8 v9 v10 v11 v12 v13)
def z46z_ (g:Nat) (a1:List G_Deed) (a2:List G_Contact) (a3:List (List UInt8)) (a4:List Int) (a5:List (G_net_own×Bool)) {R:Type} (k0:List (Int×Int)→List G_Deed→List G_Contact→List (List UInt8)→List Int→List (G_net_own×Bool)→Option R):Option R :=
 (z46z_L3 g g (a2.length:Int) 0 a5 [] a1 a2 a3 a4 (fun e16 e17 e18 e19 e20 e21=>k0 e17 e18 e19 e20 e21 e16))
noncomputable def z46z [Fuel]:yx7y:=@z46z_ NN
def yoFy (g:yx7y):Spec A:=fun args=>match args with | [.box [.arr 93 a1,.arr 38 a2,.arr 9 a3,.arr 3 a4,.mp 225 4 a5]]=>fun k=>g a1 a2 a3 a4 a5 (fun z0 z1 z2 z3 z4 z5=>k (.mp 3 3 z0) [.box [.arr 93 z1,.arr 38 z2,.arr 9 z3,.arr 3 z4,.mp 225 4 z5]]) | _=>fun _=>none
def ykWy:SSt:=mkSh 26 12 [(0,.ptr 0 0),(3,.mp 6),(10,.own 38 8),(11,.int .i64),(12,.int .i64)] [(0,.box [.own 93 7,.own 38 8,.own 9 9,.own 3 10,.mp 5]),(5,.mp 225 4),(6,.mp 3 3),(7,.row 93),(8,.row 38),(9,.row 9),(10,.row 3)]
def yfLy (g:Nat) (n:Nat):LPT A:=fun ps=>match ps with | [.d (.int .i64 p1),.d (.int .i64 p2),.mp 225 4 p3,.mp 3 3 p4,.d (.sl 93 p5),.d (.sl 38 p6),.d (.sl 9 p7),.d (.sl 3 p8)]=>fun K=>z46z_L3 g n p1 p2 p3 p4 p5 p6 p7 p8 (fun z0 z1 z2 z3 z4 z5=>K (.exit 0) (mkSt 26 12 [(0,.ptr 0 0),(3,.mp 6)] [(0,some (.box [.own 93 7,.own 38 8,.own 9 9,.own 3 10,.mp 5])),(5,some (.mp 225 4 z0)),(6,some (.mp 3 3 z1)),(7,some (.row 93 z2)),(8,some (.row 38 z3)),(9,some (.row 9 z4)),(10,some (.row 3 z5))])) | _=>fun _=>none
noncomputable def yrey (g:Nat):Env A:=mkE [] [(5,[11]),(6,[6])] [(3,⟨[0,3,10,11,12],[],[0,5,6],[(0,0,93,7),(0,1,38,8),(0,2,9,9),(0,3,3,10)],[],[],[]⟩)] [(3,⟨[0,3],[],[0,5,6,7,8,9,10],[],[],[],[]⟩)] [(3,yafy ykWy (yfLy g g))] [] [] [] [] [0]
theorem yLwy [Fuel]:yahy (yrey NN).C:=ct_of (P:=Tryz.prog) (T:=T) .nil (by kernel_rfl)
noncomputable def yq8y:Code:=sub [1,1,0,1,0,0] ylry
theorem yF5y (g:Nat) (n:Nat):yaky (yrey g) g yq8y ykWy (yfLy g) n:=by intro ps; unfold yfLy; split; exact .inr fun R K=>(by kernel_rfl); exact .inl fun R K=>rfl
theorem yDay [Fuel]:yacy (yrey NN) NN yq8y:=yaey ykWy (yfLy NN) (by kernel_rfl) yLwy (cuts0 (fun _=>rfl) (by kernel_rfl)) (fun ps R K=>by unfold yfLy; split <;> (try unfold z46z_L3) <;> rfl) (yF5y NN)
theorem yKwy (g:Nat):Same (yoFy (@z46z_ g)) (abody (yrey g) Tryz.f137 ylry 12 [0,1,2,3,4,5] [.asis] g):=by intro args; unfold yoFy; split; exact .inr fun R k=>(by kernel_rfl); exact .inl fun R k=>rfl
theorem yAIy [Fuel]:Ok 137 (yoFy (@z46z _)):=yaay std .nil ⟨rfl,rfl,by kernel_rfl,rfl,rfl,rfl⟩ (yKwy NN) (cutsL (fun _=>rfl) (.cons yDay .nil) (by kernel_rfl)) Tryz.func137 (by kernel_rfl) (by kernel_rfl)
abbrev yyvy:Type 1:=List G_Deed→List G_Contact→List (List UInt8)→List Int→List (G_net_own×Bool)→{R:Type}→(List (Int×Int)→List G_Deed→List G_Contact→List (List UInt8)→List Int→List (G_net_own×Bool)→Option R)→Option R
noncomputable def z15z_L3 (g:Nat):Nat→List (G_net_own×Bool)→List (G_net_own×Bool)→List (Int×Int)→List G_Deed→List G_Contact→List (List UInt8)→List Int→{R:Type}→(List (G_net_own×Bool)→List (Int×Int)→List G_Deed→List G_Contact→List (List UInt8)→List Int→Option R)→Option R
 | 0,_,_,_,_,_,_,_,_,_=>none
 | n + 1,m11,l12,v6,v7,v8,v9,v10,_,e0=>(ydQy l12 (e0 m11 v6 v7 v8 v9 v10) fun x15 l16=>z15z_L3 g n m11 l16 (yduy x15.1.f_no (w64 (((ycby x15.1.f_no v6).getD 0) + 1)) v6) v7 v8 v9 v10 e0)
noncomputable def yhUy (g:Nat) (a1:List G_Deed) (a2:List G_Contact) (a3:List (List UInt8)) (a4:List Int) (a5:List (G_net_own×Bool)) {R:Type} (k0:List (Int×Int)→List G_Deed→List G_Contact→List (List UInt8)→List Int→List (G_net_own×Bool)→Option R):Option R :=
 (z15z_L3 g g a5 a5 [] a1 a2 a3 a4 (fun e17 e18 e19 e20 e21 e22=>k0 e18 e19 e20 e21 e22 e17))
def yncy (p:IV A×List (IV A)):Option ((List (Int×Int))×(List G_Deed)×(List G_Contact)×(List (List UInt8))×(List Int)×(List (G_net_own×Bool))):=match p with | (.mp 3 3 b1,[.box [.arr 93 b2,.arr 38 b3,.arr 9 b4,.arr 3 b5,.mp 225 4 b6]])=>some (b1,b2,b3,b4,b5,b6) | _=>none
def yeSy (q:(List (Int×Int))×(List G_Deed)×(List G_Contact)×(List (List UInt8))×(List Int)×(List (G_net_own×Bool))):IV A×List (IV A):=(.mp 3 3 q.1,[.box [.arr 93 q.2.1,.arr 38 q.2.2.1,.arr 9 q.2.2.2.1,.arr 3 q.2.2.2.2.1,.mp 225 4 q.2.2.2.2.2]])
theorem yH6y (p:IV A×List (IV A)) (q:(List (Int×Int))×(List G_Deed)×(List G_Contact)×(List (List UInt8))×(List Int)×(List (G_net_own×Bool))) (h:yncy p = some q):p = yeSy q:=by unfold yncy at h; split at h; (cases h; rfl); cases h
noncomputable def z15z_ (g:Nat) (a1:List G_Deed) (a2:List G_Contact) (a3:List (List UInt8)) (a4:List Int) (a5:List (G_net_own×Bool)) {R:Type} (k0:List (Int×Int)→List G_Deed→List G_Contact→List (List UInt8)→List Int→List (G_net_own×Bool)→Option R):Option R :=
 (yhUy g a1 a2 a3 a4 a5 (fun z0 z1 z2 z3 z4 z5=>some (yeSy (z0,z1,z2,z3,z4,z5)))).bind fun p=>(decK yncy p (fun q=>k0 q.1 q.2.1 q.2.2.1 q.2.2.2.1 q.2.2.2.2.1 q.2.2.2.2.2) none)
noncomputable def z15z [Fuel]:yyvy:=@z15z_ NN
def ydTy (g:yyvy):Spec A:=fun args=>match args with | [.box [.arr 93 a1,.arr 38 a2,.arr 9 a3,.arr 3 a4,.mp 225 4 a5]]=>fun k=>g a1 a2 a3 a4 a5 (fun z0 z1 z2 z3 z4 z5=>k (.mp 3 3 z0) [.box [.arr 93 z1,.arr 38 z2,.arr 9 z3,.arr 3 z4,.mp 225 4 z5]]) | _=>fun _=>none
def ylNy:SSt:=mkSh 21 12 [(0,.ptr 0 0),(3,.mp 6),(9,.mp 5)] [(0,.box [.own 93 7,.own 38 8,.own 9 9,.own 3 10,.mp 5]),(5,.gone (2,0)),(6,.mp 3 3),(7,.row 93),(8,.row 38),(9,.row 9),(10,.row 3)]
noncomputable def yeUy (g:Nat) (n:Nat) (m l:List (A 225×A 4)):LPT A:=fun ps=>match ps with | [.mp 3 3 p1,.d (.sl 93 p2),.d (.sl 38 p3),.d (.sl 9 p4),.d (.sl 3 p5)]=>fun K=>z15z_L3 g n m l p1 p2 p3 p4 p5 (fun z0 z1 z2 z3 z4 z5=>K .normal (mkSt 21 12 [(0,.ptr 0 0),(3,.mp 6)] [(0,some (.box [.own 93 7,.own 38 8,.own 9 9,.own 3 10,.mp 5])),(5,some (.mp 225 4 z0)),(6,some (.mp 3 3 z1)),(7,some (.row 93 z2)),(8,some (.row 38 z3)),(9,some (.row 9 z4)),(10,some (.row 3 z5))])) | _=>fun _=>none
noncomputable def yqky:Code:=(Tryz.f138.body).getD .skip
noncomputable def yrQy (g:Nat):Env A:=mkE [] [(4,[11]),(5,[6])] [(3,⟨[0,3,9],[],[0,5,6],[(0,0,93,7),(0,1,38,8),(0,2,9,9),(0,3,3,10)],[],[],[]⟩)] [(3,⟨[0,3],[],[0,5,6,7,8,9,10],[],[],[],[]⟩)] [] [] [] [] [] [0]
noncomputable def yAxy (g:Nat):Nat→Option (ybHy A):=fun i=>List.lookup i [(3,yc8y 5 225 4 ylNy (yeUy g g))]
theorem ct_z15z [Fuel]:yahy (yrQy NN).C:=ct_of (P:=Tryz.prog) (T:=T) .nil (by kernel_rfl)
noncomputable def yssy:RangeP:=(ydRy (sub [1,1,0,0] yqky) (sub [1,1,0,1] yqky)).get (by kernel_rfl)
theorem yFBy (g:Nat) (n:Nat):yA1y (yrQy g) g yssy 5 225 4 ylNy (yeUy g) n:=by intro m l ps; unfold yeUy; split; exact .inr fun R K=>(by kernel_rfl); exact .inl fun R K=>rfl
theorem yCoy [Fuel]:ROk (yrQy NN) (yAxy NN) NN yssy:=yCyy ylNy (yeUy NN) (by kernel_rfl) (cuts0 (fun _=>rfl) (by kernel_rfl)) (fun m l ps R K=>by unfold yeUy; split <;> (try unfold z15z_L3) <;> rfl) (yFBy NN)
theorem yK2y (g:Nat):Same (ydTy (@yhUy g)) (ym5y (yrQy g) (yAxy g) Tryz.f138 yqky 12 [0,1,2,3,4,5] [.asis] g):=by intro args; unfold ydTy; split; exact .inr fun R k=>(by kernel_rfl); exact .inl fun R k=>rfl
theorem yJpy (g:Nat):Whole (ydTy (@z15z_ g)) (ydTy (@yhUy g)):=by
 intro args R k res h
 unfold ydTy at h
 split at h
 ·obtain ⟨p,hp,h⟩:=Option.bind_eq_some_iff.1 h
  exact ⟨p,hp,(ytAy (inj:=yeSy) yH6y (fun h=>(by cases h)) h)⟩
 ·cases h
theorem yKsy (g:Nat):yaDy (ydTy (@z15z_ g)):=by
 intro args R k
 unfold ydTy
 split
 ·unfold z15z_
  rw [Option.bind_assoc]
  exact congrArg (Option.bind _) (funext fun p=>(ytdy (inj:=yeSy) rfl))
 ·rfl
theorem yADy [Fuel]:Ok 138 (ydTy (@z15z _)):=yNly std .nil ⟨rfl,rfl,by kernel_rfl,rfl,rfl,rfl⟩ (yK2y NN) (yJpy NN) (yKsy NN) (cutsR (fun _=>rfl) .nil (.cons yCoy .nil) (by kernel_rfl) (by kernel_rfl)) Tryz.func138 (by kernel_rfl) (by kernel_rfl)
abbrev yw0y:Type 1:=List G_Deed→List G_Contact→List (List UInt8)→List Int→List (G_net_own×Bool)→{R:Type}→(Int→Int→List G_Deed→List G_Contact→List (List UInt8)→List Int→List (G_net_own×Bool)→Option R)→Option R
structure C_z21z where
 N:Nat
 z46z:yx7y
 z15z:yyvy
def z21z_L3 (g:C_z21z):Nat→Int→List (Int×Int)→List (G_net_own×Bool)→List (Int×Int)→List G_Deed→List G_Contact→List (List UInt8)→List Int→{R:Type}→(Int→Int→List (G_net_own×Bool)→List G_Deed→List G_Contact→List (List UInt8)→List Int→Option R)→(List (G_net_own×Bool)→List G_Deed→List G_Contact→List (List UInt8)→List Int→Option R)→Option R
 | 0,_,_,_,_,_,_,_,_,_,_,_=>none
 | n + 1,v18,v19,v20,v21,v22,v23,v24,v25,_,e0,e1=>(bif (decide (v18≤99999)) then (bif (((ycby v18 v19).getD 0) == 0) then (bif (((ycby v18 v21).getD 0) == 0) then e0 v18 0 v20 v22 v23 v24 v25 else z21z_L3 g n (w64 (v18 + 1)) v19 v20 v21 v22 v23 v24 v25 e0 e1) else z21z_L3 g n (w64 (v18 + 1)) v19 v20 v21 v22 v23 v24 v25 e0 e1) else e1 v20 v22 v23 v24 v25)
def z21z_ (g:C_z21z) (a1:List G_Deed) (a2:List G_Contact) (a3:List (List UInt8)) (a4:List Int) (a5:List (G_net_own×Bool)) {R:Type} (k0:Int→Int→List G_Deed→List G_Contact→List (List UInt8)→List Int→List (G_net_own×Bool)→Option R):Option R :=
 (g.z46z a1 a2 a3 a4 a5 (fun r6 r7 r8 r9 r10 r11=>(g.z15z r7 r8 r9 r10 r11 (fun r12 r13 r14 r15 r16 r17=>(z21z_L3 g g.N 1 r6 r17 r12 r13 r14 r15 r16 (fun e26 e27 e28 e29 e30 e31 e32=>k0 e26 e27 e29 e30 e31 e32 e28) (fun e33 e34 e35 e36 e37=>k0 0 12 e34 e35 e36 e37 e33))))))
noncomputable def yeby [Fuel]:C_z21z:=⟨NN,@z46z _,@z15z _⟩
noncomputable def z21z [Fuel]:yw0y:=@z21z_ yeby
def yEAy (args:List (IV A)):Bool:=match args with | [.box [.arr 93 _,.arr 38 _,.arr 9 _,.arr 3 _,.mp 225 4 _]]=>true | _=>false
def yn9y (g:yw0y):Spec A:=fun args=>match args with | [.box [.arr 93 a1,.arr 38 a2,.arr 9 a3,.arr 3 a4,.mp 225 4 a5]]=>fun k=>g a1 a2 a3 a4 a5 (fun z0 z1 z2 z3 z4 z5 z6=>k (.tup [.d (.int .i64 z0),.d (.int .i64 z1)]) [.box [.arr 93 z2,.arr 38 z3,.arr 9 z4,.arr 3 z5,.mp 225 4 z6]]) | _=>fun _=>none
def ylvy:SSt:=mkSh 26 22 [(0,.ptr 0 0),(4,.mp 11),(5,.mp 17),(6,.int .i64)] [(0,.box [.own 93 18,.own 38 19,.own 9 20,.own 3 21,.mp 16]),(11,.mp 3 3),(16,.mp 225 4),(17,.mp 3 3),(18,.row 93),(19,.row 38),(20,.row 9),(21,.row 3)]
def yfoy (g:C_z21z) (n:Nat):LPT A:=fun ps=>match ps with | [.d (.int .i64 p1),.mp 3 3 p2,.mp 225 4 p3,.mp 3 3 p4,.d (.sl 93 p5),.d (.sl 38 p6),.d (.sl 9 p7),.d (.sl 3 p8)]=>fun K=>z21z_L3 g n p1 p2 p3 p4 p5 p6 p7 p8 (fun z0 z1 z2 z3 z4 z5 z6=>K .ret (mkSt 26 22 [(0,.ptr 0 0),(2,.d (.int .i64 z0)),(3,.d (.int .i64 z1))] [(0,some (.box [.own 93 18,.own 38 19,.own 9 20,.own 3 21,.mp 16])),(16,some (.mp 225 4 z2)),(18,some (.row 93 z3)),(19,some (.row 38 z4)),(20,some (.row 9 z5)),(21,some (.row 3 z6))])) (fun z0 z1 z2 z3 z4=>K (.exit 0) (mkSt 26 22 [(0,.ptr 0 0)] [(0,some (.box [.own 93 18,.own 38 19,.own 9 20,.own 3 21,.mp 16])),(16,some (.mp 225 4 z0)),(18,some (.row 93 z1)),(19,some (.row 38 z2)),(20,some (.row 9 z3)),(21,some (.row 3 z4))])) | _=>fun _=>none
noncomputable def ysky (g:C_z21z):Env A:=mkE [(137,yoFy g.z46z),(138,ydTy g.z15z)] [(8,[6,7,8,9,10,11]),(10,[12,13,14,15,16,17])] [(3,⟨[0,4,5,6],[],[0,11,16,17],[(0,0,93,18),(0,1,38,19),(0,2,9,20),(0,3,3,21)],[],[],[]⟩)] [(3,⟨[0,2,3],[],[0,16,18,19,20,21],[],[],[],[]⟩)] [(3,yafy ylvy (yfoy g g.N))] [] [] [] [] [0]
theorem yI6y [Fuel]:yahy (ysky yeby).C:=ct_of (P:=Tryz.prog) (T:=T) (.cons yAIy (.cons yADy .nil)) (by kernel_rfl)
noncomputable def yr5y:Code:=sub [1,1,0,1,0,0] yn6y
theorem yEJy (g:C_z21z) (n:Nat):yaky (ysky g) g.N yr5y ylvy (yfoy g) n:=by intro ps; unfold yfoy; split; exact .inr fun R K=>(by kernel_rfl); exact .inl fun R K=>rfl
theorem yCuy [Fuel]:yacy (ysky yeby) NN yr5y:=yaey ylvy (yfoy yeby) (by kernel_rfl) yI6y (cuts0 (fun _=>rfl) (by kernel_rfl)) (fun ps R K=>by unfold yfoy; split <;> (try unfold z21z_L3) <;> rfl) (yEJy yeby)
theorem yMvy (g:C_z21z):Same (yn9y (@z21z_ g)) (abody (ysky g) Tryz.f88 yn6y 22 [0,1,2,3,4,5] [.asis,.asis] g.N):=by intro args; unfold yn9y; split; exact .inr fun R k=>(by kernel_rfl); exact .inl fun R k=>rfl
theorem yMRy [Fuel]:Ok 88 (yn9y (@z21z _)):=yaay std (.cons yAIy (.cons yADy .nil)) ⟨rfl,rfl,by kernel_rfl,rfl,rfl,rfl⟩ (yMvy yeby) (cutsL (fun _=>rfl) (.cons yCuy .nil) (by kernel_rfl)) Tryz.func88 (by kernel_rfl) (by kernel_rfl)
abbrev ylVy:Type 1:=List G_Deed→Int→{R:Type}→(Int→Int→Option R)→Option R
structure C_net_Next where
 N:Nat
 z90z:yy2y
 z21z:yw0y
 z75z:yyzy
def ymPy (g:C_net_Next) (a1:List G_Deed) (a2:Int) {R:Type} (k0:Int→Int→Option R):Option R :=
 (g.z90z a1 a2 (fun r3=>(bif (r3 != 0) then k0 0 r3 else (g.z75z))) (fun r4 r5 r6 r7 r8 r9=>(bif (r9 != 0) then k0 0 r9 else (g.z21z r4 r5 r6 r7 r8 (fun r10 r11 r12 r13 r14 r15 r16=>k0 r10 r11)))))
noncomputable def yhzy [Fuel]:C_net_Next:=⟨NN,@z90z _,@z21z _,@z75z _⟩
noncomputable def net_Next [Fuel]:ylVy:=@ymPy yhzy
def ygCy (g:ylVy):Spec A:=fun args=>match args with | [.d (.sl 93 a1),.d (.int .i64 a2)]=>fun k=>g a1 a2 (fun z0 z1=>k (.tup [.d (.int .i64 z0),.d (.int .i64 z1)]) [.undef,.undef]) | _=>fun _=>none
noncomputable def yLNy:Code:=(Tryz.f47.body).getD .skip
noncomputable def yDqy (g:C_net_Next):Env A:=mkE [(87,yoJy g.z90z),(88,orS yEAy (yn9y g.z21z) (yoyy g.z75z))] [(11,[0,1,2,3,4,5]),(18,[6,7,8,9,10])] [] [] [] [] [] [] [] []
theorem yAfy (g:C_net_Next):Same (ygCy (@ymPy g)) (abody (yDqy g) Tryz.f47 yLNy 11 [] [.asis,.asis] g.N):=by intro args; unfold ygCy; split; exact .inr fun R k=>(by kernel_rfl); exact .inl fun R k=>rfl
theorem yzRy [Fuel]:Ok 47 (ygCy (@net_Next _)):=yaay std (.cons yJ8y (.cons (ok_or yEAy yMRy yKey) .nil)) ⟨rfl,rfl,by kernel_rfl,rfl,rfl,rfl⟩ (yAfy yhzy) (cuts0 (fun _=>rfl) (by kernel_rfl)) Tryz.func47 (by kernel_rfl) (by kernel_rfl)
abbrev yidy:Type 1:={R:Type}→(Bool→Option R)→Option R
structure C_keep_ready where
 N:Nat
 log_Dupes:yi1y
 keep_errs:ygJy
 club_Table:yh3y
 net_Next:ylVy
 band_May:ykPy
def ypRy (g:C_keep_ready)  {R:Type} (k0:Bool→Option R):Option R :=
 (g.log_Dupes [(⟨0,1,[98],[107,49,97,98],0,0,[],[]⟩:G_Contact),(⟨5,1,[98],[107,49,97,98],0,0,[],[]⟩:G_Contact)] (fun r1 r2=>(g.band_May [(⟨[99],5,8,[1],(⟨0,9⟩:G_Window)⟩:G_Segment)] [99] 6 3 1 0 (fun r3 r4=>(g.club_Table [(⟨[107,49,97,98],[99],5,[]⟩:G_Entrant)] [99] (fun r5 r6=>(g.net_Next [(⟨[97],1,0,3,(⟨0,0,[],[],1,0,[],[]⟩:G_Contact),[],[],0⟩:G_Deed)] 0 (fun r7 r8=>(g.keep_errs [r2,r4,r6,r8] (fun r9=>(bif (r9 == 0) then (bif ((r1.length:Int) == 1) then (bif r3 then (bif ((r5.length:Int) == 1) then k0 (r7 == 2) else k0 false) else k0 false) else k0 false) else k0 false)))))))))))
noncomputable def ya3y [Fuel]:C_keep_ready:=⟨NN,@log_Dupes _,@keep_errs _,@club_Table _,@net_Next _,@band_May _⟩
noncomputable def keep_ready [Fuel]:yidy:=@ypRy ya3y
def yery (g:yidy):Spec A:=fun args=>match args with | []=>fun k=>g (fun z0=>k (.d (.bool z0)) []) | _=>fun _=>none
noncomputable def yKmy:Code:=(Tryz.f24.body).getD .skip
noncomputable def yvCy (g:C_keep_ready):Env A:=mkE [(14,yfQy g.log_Dupes),(20,ydvy g.keep_errs),(46,yemy g.club_Table),(47,ygCy g.net_Next),(54,ygMy g.band_May)] [(1,[0]),(2,[1]),(17,[2]),(18,[3]),(22,[4]),(25,[5]),(31,[6]),(32,[7]),(38,[8]),(46,[9])] [] [] [] [] [] [] [] []
theorem yvpy (g:C_keep_ready):Same (yery (@ypRy g)) (abody (yvCy g) Tryz.f24 yKmy 10 [] [.asis] g.N):=by intro args; unfold yery; split; exact .inr fun R k=>(by kernel_rfl); exact .inl fun R k=>rfl
theorem ymmy [Fuel]:Ok 24 (yery (@keep_ready _)):=yaay std (.cons yyPy (.cons yiky (.cons yu2y (.cons yzRy (.cons yzIy .nil))))) ⟨rfl,rfl,by kernel_rfl,rfl,rfl,rfl⟩ (yvpy ya3y) (cuts0 (fun _=>rfl) (by kernel_rfl)) Tryz.func24 (by kernel_rfl) (by kernel_rfl)
end Go.Am
