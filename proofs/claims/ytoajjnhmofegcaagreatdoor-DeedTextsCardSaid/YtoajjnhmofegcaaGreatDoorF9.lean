/- The functions of the program as Lean functions, each shown to be what the code computes, part 9. No condition: lemmas for the claim. -/
import Derived.Test.YtoajjnhmofegcaaGreatDoorF0
import Derived.Test.YtoajjnhmofegcaaGreatDoorFSh
import Derived.Test.YtoajjnhmofegcaaGreatDoorF8
set_option linter.unusedVariables false
set_option maxRecDepth 100000
namespace Go.Am
open Go Go.Proofs
abbrev yuty:Type 1:=List G_Contact→{R:Type}→(List G_Contact→Option R)→Option R
noncomputable def z28z [Fuel]:yuty:=@yeay G_Contact (@z41z _)
def yjJy (g:yuty):Spec A:=fun args=>match args with | [.arr 39 a1,.fn 121 []]=>fun k=>g a1 (fun z=>k (.tup []) [.arr 39 z,.fn 121 []]) | _=>fun _=>none
theorem yxIy [Fuel] (xs:List (A 39)) (R:Type) (k:IV A→List (IV A)→Option R):yjJy (@z28z _) [.arr 39 xs,.fn 121 []] k = yeay (α:=A 39) (@z41z _) xs (fun z=>k (.tup []) [.arr 39 z,.fn 121 []]):=by kernel_rfl
theorem yxYy [Fuel] (args:List (IV A)) (R:Type) (k:IV A→List (IV A)→Option R) (h:∀ xs:List (A 39),args≠[.arr 39 xs,.fn 121 []]):yjJy (@z28z _) args k = none:=by unfold yjJy;split;exact absurd rfl (h _);rfl
theorem yG6y [Fuel] (x y:A 39) (R:Type) (k:Int→Option R):yvxy T (ygfy (@z41z _)) 39 x y k = @z41z _ x y R k:=by kernel_rfl
theorem yGjy (x:G_Contact):(ynKy x).all scal = true:=rfl
theorem yxVy [Fuel]:Ok 259 (yjJy (@z28z _)):=⟨ywyy (tyOk Tryz.prog) (e:=39) Tryz.sortf259 Tryz.isAgg39 Tryz.sizeOf39 (fun x d hd=>List.all_eq_true.1 (yGjy x) d hd) yG6y yugy.fs yugy.en yxIy yxYy,yCUy (e:=39) yxIy yxYy,enters_of (fn:=Tryz.f259) Tryz.func259 (by kernel_rfl) (by kernel_rfl)⟩
abbrev yuKy:Type 1:=List G_Deed→Int→{R:Type}→(Int→Option R)→(List G_Deed→List G_Contact→List (List UInt8)→List Int→List (G_net_own×Bool)→Int→Option R)→Option R
structure C_z21z where
 N:Nat
 z17z:ytny
 net_key:ymDy
 z28z:yuty
def z21z_L4 (g:C_z21z):Nat→List G_Deed→Int→Int→List (G_net_own×Bool)→List (G_Contact×G_Deed)→List Int→List G_Deed→List G_Contact→List (List UInt8)→List Int→{R:Type}→(List (G_net_own×Bool)→List (G_Contact×G_Deed)→List G_Deed→List G_Contact→List (List UInt8)→List Int→Option R)→Option R
 | 0,_,_,_,_,_,_,_,_,_,_,_,_=>none
 | n + 1,v4,v5,v6,v7,v8,v9,v10,v11,v12,v13,_,e0=>(bif (decide (v6 < v5)) then (inr v9 v6 (at_ v9 v6 fun x26=>(get_ v4 x26 fun x27=>(bif (decide ((v10.length + [x27].length) * 176≤yaey)) then (bif (x27.f_Kind == 3) then (bif (x27.f_Kind != 1) then z21z_L4 g n v4 v5 (w64 (v6 + 1)) (yaMy (⟨x27.f_Site,x27.f_Contact.f_Sent⟩:G_net_own) true v7) v8 v9 (v10++[x27]) v11 v12 v13 e0 else (g.net_key x27.f_Contact (fun r28=>(bif (yaVy r28 v8).isSome then (bif (decide ((v13.length + [x26].length) * 8≤yaey)) then z21z_L4 g n v4 v5 (w64 (v6 + 1)) (yaMy (⟨x27.f_Site,x27.f_Contact.f_Sent⟩:G_net_own) true v7) v8 v9 (v10++[x27]) v11 v12 (v13++[x26]) e0 else none) else (g.net_key x27.f_Contact (fun r29=>(bif (decide ((v11.length + [x27.f_Contact].length) * 96≤yaey)) then z21z_L4 g n v4 v5 (w64 (v6 + 1)) (yaMy (⟨x27.f_Site,x27.f_Contact.f_Sent⟩:G_net_own) true v7) (ya9y r29 x27 v8) v9 (v10++[x27]) (v11++[x27.f_Contact]) v12 v13 e0 else none))))))) else (bif (x27.f_Kind == 4) then (bif (x27.f_Kind == 4) then (bif (x27.f_Kind != 1) then z21z_L4 g n v4 v5 (w64 (v6 + 1)) (ya0y (⟨x27.f_Site,x27.f_Contact.f_Sent⟩:G_net_own) v7) v8 v9 (v10++[x27]) v11 v12 v13 e0 else (g.net_key x27.f_Contact (fun r30=>(bif (yaVy r30 v8).isSome then (bif (decide ((v13.length + [x26].length) * 8≤yaey)) then z21z_L4 g n v4 v5 (w64 (v6 + 1)) (ya0y (⟨x27.f_Site,x27.f_Contact.f_Sent⟩:G_net_own) v7) v8 v9 (v10++[x27]) v11 v12 (v13++[x26]) e0 else none) else (g.net_key x27.f_Contact (fun r31=>(bif (decide ((v11.length + [x27.f_Contact].length) * 96≤yaey)) then z21z_L4 g n v4 v5 (w64 (v6 + 1)) (ya0y (⟨x27.f_Site,x27.f_Contact.f_Sent⟩:G_net_own) v7) (ya9y r31 x27 v8) v9 (v10++[x27]) (v11++[x27.f_Contact]) v12 v13 e0 else none))))))) else (bif (x27.f_Kind != 1) then z21z_L4 g n v4 v5 (w64 (v6 + 1)) v7 v8 v9 (v10++[x27]) v11 v12 v13 e0 else (g.net_key x27.f_Contact (fun r32=>(bif (yaVy r32 v8).isSome then (bif (decide ((v13.length + [x26].length) * 8≤yaey)) then z21z_L4 g n v4 v5 (w64 (v6 + 1)) v7 v8 v9 (v10++[x27]) v11 v12 (v13++[x26]) e0 else none) else (g.net_key x27.f_Contact (fun r33=>(bif (decide ((v11.length + [x27.f_Contact].length) * 96≤yaey)) then z21z_L4 g n v4 v5 (w64 (v6 + 1)) v7 (ya9y r33 x27 v8) v9 (v10++[x27]) (v11++[x27.f_Contact]) v12 v13 e0 else none)))))))) else (bif (x27.f_Kind == 1) then (bif (x27.f_Kind != 1) then z21z_L4 g n v4 v5 (w64 (v6 + 1)) (ya0y (⟨x27.f_Site,x27.f_Contact.f_Sent⟩:G_net_own) v7) v8 v9 (v10++[x27]) v11 v12 v13 e0 else (g.net_key x27.f_Contact (fun r34=>(bif (yaVy r34 v8).isSome then (bif (decide ((v13.length + [x26].length) * 8≤yaey)) then z21z_L4 g n v4 v5 (w64 (v6 + 1)) (ya0y (⟨x27.f_Site,x27.f_Contact.f_Sent⟩:G_net_own) v7) v8 v9 (v10++[x27]) v11 v12 (v13++[x26]) e0 else none) else (g.net_key x27.f_Contact (fun r35=>(bif (decide ((v11.length + [x27.f_Contact].length) * 96≤yaey)) then z21z_L4 g n v4 v5 (w64 (v6 + 1)) (ya0y (⟨x27.f_Site,x27.f_Contact.f_Sent⟩:G_net_own) v7) (ya9y r35 x27 v8) v9 (v10++[x27]) (v11++[x27.f_Contact]) v12 v13 e0 else none))))))) else (bif (x27.f_Kind != 1) then z21z_L4 g n v4 v5 (w64 (v6 + 1)) v7 v8 v9 (v10++[x27]) v11 v12 v13 e0 else (g.net_key x27.f_Contact (fun r36=>(bif (yaVy r36 v8).isSome then (bif (decide ((v13.length + [x26].length) * 8≤yaey)) then z21z_L4 g n v4 v5 (w64 (v6 + 1)) v7 v8 v9 (v10++[x27]) v11 v12 (v13++[x26]) e0 else none) else (g.net_key x27.f_Contact (fun r37=>(bif (decide ((v11.length + [x27.f_Contact].length) * 96≤yaey)) then z21z_L4 g n v4 v5 (w64 (v6 + 1)) v7 (ya9y r37 x27 v8) v9 (v10++[x27]) (v11++[x27.f_Contact]) v12 v13 e0 else none)))))))))) else none)))) else e0 v7 v8 v10 v11 v12 v13)
def z21z_L25 (g:C_z21z):Nat→Int→Int→List (G_net_own×Bool)→List (G_Contact×G_Deed)→List G_Deed→List G_Contact→List (List UInt8)→List Int→{R:Type}→(List (G_net_own×Bool)→List G_Deed→List G_Contact→List (List UInt8)→List Int→Option R)→Option R
 | 0,_,_,_,_,_,_,_,_,_,_=>none
 | n + 1,v45,v46,v47,v48,v49,v50,v51,v52,_,e0=>(bif (decide (v46 < v45)) then (inr v50 v46 (at_ v50 v46 fun x55=>(g.net_key x55 (fun r56=>(bif (decide ((v51.length + [((yaVy r56 v48).getD (⟨[],0,0,0,(⟨0,0,[],[],0,0,[],[]⟩:G_Contact),[],[],0⟩:G_Deed)).f_Site].length) * 16≤yaey)) then z21z_L25 g n v45 (w64 (v46 + 1)) v47 v48 v49 v50 (v51++[((yaVy r56 v48).getD (⟨[],0,0,0,(⟨0,0,[],[],0,0,[],[]⟩:G_Contact),[],[],0⟩:G_Deed)).f_Site]) v52 e0 else none))))) else e0 v47 v49 v50 v51 v52)
def z21z_ (g:C_z21z) (a1:List G_Deed) (a2:Int) {R:Type} (k0:Int→Option R) (k1:List G_Deed→List G_Contact→List (List UInt8)→List Int→List (G_net_own×Bool)→Int→Option R):Option R :=
 (g.z17z a1 a2 (fun r3=>(z21z_L4 g g.N a1 (r3.length:Int) 0 [] [] r3 [] [] [] [] (fun e38 e39 e40 e41 e42 e43=>(bif (decide ((e41.length:Int) > 2000)) then k0 2 else (g.z28z e41 (fun r44=>(z21z_L25 g g.N (r44.length:Int) 0 e38 e39 e40 r44 e42 e43 (fun e57 e58 e59 e60 e61=>k1 e58 e59 e60 e61 e57 0)))))))))
noncomputable def ycoy [Fuel]:C_z21z:=⟨NN,@z17z _,@net_key _,@z28z _⟩
noncomputable def z21z [Fuel]:yuKy:=@z21z_ ycoy
def yney (g:yuKy):Spec A:=fun args=>match args with | [.d (.sl 71 a1),.d (.int .i64 a2)]=>fun k=>g a1 a2 (fun z0=>k (.tup [.d (.lit (.pointer none)),.d (.int .i64 z0)]) [.undef,.undef]) (fun z0 z1 z2 z3 z4 z5=>k (.tup [.box [.arr 71 z0,.arr 39 z1,.arr 9 z2,.arr 3 z3,.mp 182 4 z4],.d (.int .i64 z5)]) [.undef,.undef]) | _=>fun _=>none
def ykSy:SSt:=mkSh 143 23 [(0,.sl 71),(6,.ptr 1 0),(7,.mp 2),(21,.own 3 3),(22,.int .i64),(23,.int .i64)] [(0,.mp 182 4),(1,.box [.own 71 4,.own 39 5,.own 9 6,.own 3 7,.mp 0]),(2,.mp 39 71),(3,.row 3),(4,.row 71),(5,.row 39),(6,.row 9),(7,.row 3)]
def yfXy (g:C_z21z) (n:Nat):LPT A:=fun ps=>match ps with | [.d (.sl 71 p1),.d (.int .i64 p2),.d (.int .i64 p3),.mp 182 4 p4,.mp 39 71 p5,.d (.sl 3 p6),.d (.sl 71 p7),.d (.sl 39 p8),.d (.sl 9 p9),.d (.sl 3 p10)]=>fun K=>z21z_L4 g n p1 p2 p3 p4 p5 p6 p7 p8 p9 p10 (fun z0 z1 z2 z3 z4 z5=>K (.exit 0) (mkSt 143 23 [(6,.ptr 1 0),(7,.mp 2)] [(0,some (.mp 182 4 z0)),(1,some (.box [.own 71 4,.own 39 5,.own 9 6,.own 3 7,.mp 0])),(2,some (.mp 39 71 z1)),(4,some (.row 71 z2)),(5,some (.row 39 z3)),(6,some (.row 9 z4)),(7,some (.row 3 z5))])) | _=>fun _=>none
def yjmy:SSt:=mkSh 143 23 [(6,.ptr 1 0),(7,.mp 2),(121,.own 39 17),(122,.int .i64),(123,.int .i64)] [(0,.mp 182 4),(1,.box [.own 71 16,.own 39 17,.own 9 18,.own 3 19,.mp 0]),(2,.mp 39 71),(16,.row 71),(17,.row 39),(18,.row 9),(19,.row 3)]
def yeqy (g:C_z21z) (n:Nat):LPT A:=fun ps=>match ps with | [.d (.int .i64 p1),.d (.int .i64 p2),.mp 182 4 p3,.mp 39 71 p4,.d (.sl 71 p5),.d (.sl 39 p6),.d (.sl 9 p7),.d (.sl 3 p8)]=>fun K=>z21z_L25 g n p1 p2 p3 p4 p5 p6 p7 p8 (fun z0 z1 z2 z3 z4=>K (.exit 3) (mkSt 143 23 [(6,.ptr 1 0)] [(0,some (.mp 182 4 z0)),(1,some (.box [.own 71 16,.own 39 17,.own 9 18,.own 3 19,.mp 0])),(16,some (.row 71 z1)),(17,some (.row 39 z2)),(18,some (.row 9 z3)),(19,some (.row 3 z4))])) | _=>fun _=>none
noncomputable def ypny:Code:=(Tryz.f208.body).getD .skip
noncomputable def yjRy (g:C_z21z):Env A:=mkE [(257,yd7y g.z17z),(258,yhty g.net_key),(259,yjJy g.z28z)] [(10,[8]),(11,[11]),(14,[20]),(15,[0]),(17,[1]),(18,[2]),(21,[3]),(37,[9]),(38,[10]),(86,[12]),(87,[13]),(102,[14]),(103,[15]),(137,[21]),(138,[22])] [(4,⟨[0,6,7,21,22,23],[],[0,1,2,3],[(1,0,71,4),(1,1,39,5),(1,2,9,6),(1,3,3,7)],[],[],[]⟩),(25,⟨[6,7,121,122,123],[],[0,1,2],[(1,0,71,16),(1,1,39,17),(1,2,9,18),(1,3,3,19)],[],[],[]⟩)] [(4,⟨[6,7],[],[0,1,2,4,5,6,7],[],[],[],[]⟩),(25,⟨[6],[],[0,1,16,17,18,19],[],[],[],[]⟩)] [(4,yajy ykSy (yfXy g g.N)),(25,yajy yjmy (yeqy g g.N))] [] [] [] [(259,0)] []
theorem yyvy [Fuel]:yahy (yjRy ycoy).C:=ct_of (P:=Tryz.prog) (T:=T) (.cons yyNy (.cons yqMy (.cons yxVy .nil))) (by kernel_rfl)
noncomputable def ypOy:Code:=sub [1,1,1,0,1,0,0] ypny
theorem yB4y (g:C_z21z) (n:Nat):yaCy (yjRy g) g.N ypOy ykSy (yfXy g) n:=by intro ps;unfold yfXy;split;exact .inr fun R K=>(by kernel_rfl);exact .inl fun R K=>rfl
theorem yzYy [Fuel]:yaiy (yjRy ycoy) NN ypOy:=yamy ykSy (yfXy ycoy) (by kernel_rfl) yyvy (cuts0 (fun _=>rfl) (by kernel_rfl)) (fun ps R K=>by unfold yfXy;split <;> (try unfold z21z_L4) <;> rfl) (yB4y ycoy)
noncomputable def yojy:Code:=sub [1,1,1,1,1,1,0,1,0,0] ypny
theorem yz2y (g:C_z21z) (n:Nat):yaCy (yjRy g) g.N yojy yjmy (yeqy g) n:=by intro ps;unfold yeqy;split;exact .inr fun R K=>(by kernel_rfl);exact .inl fun R K=>rfl
theorem ywWy [Fuel]:yaiy (yjRy ycoy) NN yojy:=yamy yjmy (yeqy ycoy) (by kernel_rfl) yyvy (cuts0 (fun _=>rfl) (by kernel_rfl)) (fun ps R K=>by unfold yeqy;split <;> (try unfold z21z_L25) <;> rfl) (yz2y ycoy)
theorem yFYy (g:C_z21z):Same (yney (@z21z_ g)) (abody (yjRy g) Tryz.f208 ypny 23 [] [.asis,.asis] g.N):=by intro args;unfold yney;split;exact .inr fun R k=>(by kernel_rfl);exact .inl fun R k=>rfl
theorem yE6y [Fuel]:Ok 208 (yney (@z21z _)):=yacy std (.cons yyNy (.cons yqMy (.cons yxVy .nil))) ⟨rfl,rfl,by kernel_rfl,rfl,rfl,rfl⟩ (yFYy ycoy) (cutsL (fun _=>rfl) (.cons yzYy (.cons ywWy .nil)) (by kernel_rfl)) Tryz.func208 (by kernel_rfl) (by kernel_rfl)
abbrev ywoy:Type 1:=List G_Deed→Int→{R:Type}→(Int→Option R)→(List G_Deed→List G_Contact→List (List UInt8)→List Int→List (G_net_own×Bool)→Int→Option R)→Option R
structure C_z73z where
 N:Nat
 z77z:yu6y
 z21z:yuKy
def z73z_ (g:C_z73z) (a1:List G_Deed) (a2:Int) {R:Type} (k0:Int→Option R) (k1:List G_Deed→List G_Contact→List (List UInt8)→List Int→List (G_net_own×Bool)→Int→Option R):Option R :=
 (g.z77z a1 a2 (fun r3=>(bif (r3 != 0) then k0 r3 else (g.z21z a1 a2 (fun r4=>k0 r4) (fun r5 r6 r7 r8 r9 r10=>k1 r5 r6 r7 r8 r9 r10)))))
noncomputable def ypEy [Fuel]:C_z73z:=⟨NN,@z77z _,@z21z _⟩
noncomputable def z73z [Fuel]:ywoy:=@z73z_ ypEy
def yn5y (g:ywoy):Spec A:=fun args=>match args with | [.d (.sl 71 a1),.d (.int .i64 a2)]=>fun k=>g a1 a2 (fun z0=>k (.tup [.d (.lit (.pointer none)),.d (.int .i64 z0)]) [.undef,.undef]) (fun z0 z1 z2 z3 z4 z5=>k (.tup [.box [.arr 71 z0,.arr 39 z1,.arr 9 z2,.arr 3 z3,.mp 182 4 z4],.d (.int .i64 z5)]) [.undef,.undef]) | _=>fun _=>none
noncomputable def yCYy:Code:=(Tryz.f162.body).getD .skip
noncomputable def yJjy (g:C_z73z):Env A:=mkE [(207,ynqy g.z77z),(208,yney g.z21z)] [(15,[0,1,2,3,4,5])] [] [] [] [] [] [] [] []
theorem yGfy (g:C_z73z):Same (yn5y (@z73z_ g)) (abody (yJjy g) Tryz.f162 yCYy 6 [] [.asis,.asis] g.N):=by intro args;unfold yn5y;split;exact .inr fun R k=>(by kernel_rfl);exact .inl fun R k=>rfl
theorem yGPy [Fuel]:Ok 162 (yn5y (@z73z _)):=yacy std (.cons yGXy (.cons yE6y .nil)) ⟨rfl,rfl,by kernel_rfl,rfl,rfl,rfl⟩ (yGfy ypEy) (cuts0 (fun _=>rfl) (by kernel_rfl)) Tryz.func162 (by kernel_rfl) (by kernel_rfl)
abbrev yuwy:Type 1:={R:Type}→Option R
def z74z_ (g:Nat)  {R:Type}  : Option R :=
 none
noncomputable def z74z [Fuel]:yuwy:=@z74z_ NN
def yncy (g:yuwy):Spec A:=fun args=>match args with | [.d (.lit (.pointer none))]=>fun k=>g | _=>fun _=>none
noncomputable def ykDy:Code:=(Tryz.f209.body).getD .skip
noncomputable def yAuy (g:Nat):Env A:=mkE [] [(6,[0])] [] [] [] [] [] [] [] []
noncomputable def yz3y:Code:=sub [1,1,0,1,0,0] ykDy
theorem yyZy [Fuel]:yaiy (yAuy NN) NN yz3y:=ynpy (by kernel_rfl)
theorem yF3y (g:Nat):Same (yncy (@z74z_ g)) (abody (yAuy g) Tryz.f209 ykDy 1 [] [.asis] g):=by intro args;unfold yncy;split;exact .inr fun R k=>(by kernel_rfl);exact .inl fun R k=>rfl
theorem yFgy [Fuel]:Ok 209 (yncy (@z74z _)):=yacy std .nil ⟨rfl,rfl,by kernel_rfl,rfl,rfl,rfl⟩ (yF3y NN) (cutsL (fun _=>rfl) (.cons yyZy .nil) (by kernel_rfl)) Tryz.func209 (by kernel_rfl) (by kernel_rfl)
abbrev yv1y:Type 1:={R:Type}→Option R
structure C_z60z where
 N:Nat
 z74z:yuwy
def z60z_ (g:C_z60z)  {R:Type}  : Option R :=
 (g.z74z)
noncomputable def yuhy [Fuel]:C_z60z:=⟨NN,@z74z _⟩
noncomputable def z60z [Fuel]:yv1y:=@z60z_ yuhy
def ynTy (g:yv1y):Spec A:=fun args=>match args with | [.d (.lit (.pointer none))]=>fun k=>g | _=>fun _=>none
noncomputable def ykqy:Code:=(Tryz.f163.body).getD .skip
noncomputable def yBKy (g:C_z60z):Env A:=mkE [(209,yncy g.z74z)] [] [] [] [] [] [] [] [] []
noncomputable def yzIy:Code:=sub [1,1,0,1,0,0] ykqy
theorem yzuy [Fuel]:yaiy (yBKy yuhy) NN yzIy:=ynpy (by kernel_rfl)
theorem yFay (g:C_z60z):Same (ynTy (@z60z_ g)) (abody (yBKy g) Tryz.f163 ykqy 0 [] [.asis,.asis] g.N):=by intro args;unfold ynTy;split;exact .inr fun R k=>(by kernel_rfl);exact .inl fun R k=>rfl
theorem yGxy [Fuel]:Ok 163 (ynTy (@z60z _)):=yacy std (.cons yFgy .nil) ⟨rfl,rfl,by kernel_rfl,rfl,rfl,rfl⟩ (yFay yuhy) (cutsL (fun _=>rfl) (.cons yzuy .nil) (by kernel_rfl)) Tryz.func163 (by kernel_rfl) (by kernel_rfl)
abbrev yvry:Type 1:=List G_Deed→List G_Contact→List (List UInt8)→List Int→List (G_net_own×Bool)→{R:Type}→(List (Int×Int)→List G_Deed→List G_Contact→List (List UInt8)→List Int→List (G_net_own×Bool)→Option R)→Option R
def z26z_L3 (g:Nat):Nat→Int→Int→List (G_net_own×Bool)→List (Int×Int)→List G_Deed→List G_Contact→List (List UInt8)→List Int→{R:Type}→(List (G_net_own×Bool)→List (Int×Int)→List G_Deed→List G_Contact→List (List UInt8)→List Int→Option R)→Option R
 | 0,_,_,_,_,_,_,_,_,_,_=>none
 | n + 1,v6,v7,v8,v9,v10,v11,v12,v13,_,e0=>(bif (decide (v7 < v6)) then (inr v11 v7 (at_ v11 v7 fun x15=>(bif (decide (x15.f_Sent > 0)) then z26z_L3 g n v6 (w64 (v7 + 1)) v8 (ydVy x15.f_Sent (w64 (((ycjy x15.f_Sent v9).getD 0) + 1)) v9) v10 v11 v12 v13 e0 else z26z_L3 g n v6 (w64 (v7 + 1)) v8 v9 v10 v11 v12 v13 e0))) else e0 v8 v9 v10 v11 v12 v13)
def z26z_ (g:Nat) (a1:List G_Deed) (a2:List G_Contact) (a3:List (List UInt8)) (a4:List Int) (a5:List (G_net_own×Bool)) {R:Type} (k0:List (Int×Int)→List G_Deed→List G_Contact→List (List UInt8)→List Int→List (G_net_own×Bool)→Option R):Option R :=
 (z26z_L3 g g (a2.length:Int) 0 a5 [] a1 a2 a3 a4 (fun e16 e17 e18 e19 e20 e21=>k0 e17 e18 e19 e20 e21 e16))
noncomputable def z26z [Fuel]:yvry:=@z26z_ NN
def ynDy (g:yvry):Spec A:=fun args=>match args with | [.box [.arr 71 a1,.arr 39 a2,.arr 9 a3,.arr 3 a4,.mp 182 4 a5]]=>fun k=>g a1 a2 a3 a4 a5 (fun z0 z1 z2 z3 z4 z5=>k (.mp 3 3 z0) [.box [.arr 71 z1,.arr 39 z2,.arr 9 z3,.arr 3 z4,.mp 182 4 z5]]) | _=>fun _=>none
def ykmy:SSt:=mkSh 26 12 [(0,.ptr 0 0),(3,.mp 6),(10,.own 39 8),(11,.int .i64),(12,.int .i64)] [(0,.box [.own 71 7,.own 39 8,.own 9 9,.own 3 10,.mp 5]),(5,.mp 182 4),(6,.mp 3 3),(7,.row 71),(8,.row 39),(9,.row 9),(10,.row 3)]
def yfjy (g:Nat) (n:Nat):LPT A:=fun ps=>match ps with | [.d (.int .i64 p1),.d (.int .i64 p2),.mp 182 4 p3,.mp 3 3 p4,.d (.sl 71 p5),.d (.sl 39 p6),.d (.sl 9 p7),.d (.sl 3 p8)]=>fun K=>z26z_L3 g n p1 p2 p3 p4 p5 p6 p7 p8 (fun z0 z1 z2 z3 z4 z5=>K (.exit 0) (mkSt 26 12 [(0,.ptr 0 0),(3,.mp 6)] [(0,some (.box [.own 71 7,.own 39 8,.own 9 9,.own 3 10,.mp 5])),(5,some (.mp 182 4 z0)),(6,some (.mp 3 3 z1)),(7,some (.row 71 z2)),(8,some (.row 39 z3)),(9,some (.row 9 z4)),(10,some (.row 3 z5))])) | _=>fun _=>none
noncomputable def ypoy (g:Nat):Env A:=mkE [] [(5,[11]),(6,[6])] [(3,⟨[0,3,10,11,12],[],[0,5,6],[(0,0,71,7),(0,1,39,8),(0,2,9,9),(0,3,3,10)],[],[],[]⟩)] [(3,⟨[0,3],[],[0,5,6,7,8,9,10],[],[],[],[]⟩)] [(3,yajy ykmy (yfjy g g))] [] [] [] [] [0]
theorem yHKy [Fuel]:yahy (ypoy NN).C:=ct_of (P:=Tryz.prog) (T:=T) .nil (by kernel_rfl)
noncomputable def yp3y:Code:=sub [1,1,0,1,0,0] ykDy
theorem yCfy (g:Nat) (n:Nat):yaCy (ypoy g) g yp3y ykmy (yfjy g) n:=by intro ps;unfold yfjy;split;exact .inr fun R K=>(by kernel_rfl);exact .inl fun R K=>rfl
theorem yAdy [Fuel]:yaiy (ypoy NN) NN yp3y:=yamy ykmy (yfjy NN) (by kernel_rfl) yHKy (cuts0 (fun _=>rfl) (by kernel_rfl)) (fun ps R K=>by unfold yfjy;split <;> (try unfold z26z_L3) <;> rfl) (yCfy NN)
theorem yGdy (g:Nat):Same (ynDy (@z26z_ g)) (abody (ypoy g) Tryz.f209 ykDy 12 [0,1,2,3,4,5] [.asis] g):=by intro args;unfold ynDy;split;exact .inr fun R k=>(by kernel_rfl);exact .inl fun R k=>rfl
theorem yyry [Fuel]:Ok 209 (ynDy (@z26z _)):=yacy std .nil ⟨rfl,rfl,by kernel_rfl,rfl,rfl,rfl⟩ (yGdy NN) (cutsL (fun _=>rfl) (.cons yAdy .nil) (by kernel_rfl)) Tryz.func209 (by kernel_rfl) (by kernel_rfl)
abbrev T_z8z:Type 1:=List G_Deed→List G_Contact→List (List UInt8)→List Int→List (G_net_own×Bool)→{R:Type}→(List (Int×Int)→List G_Deed→List G_Contact→List (List UInt8)→List Int→List (G_net_own×Bool)→Option R)→Option R
noncomputable def z8z_L3 (g:Nat):Nat→List (G_net_own×Bool)→List (G_net_own×Bool)→List (Int×Int)→List G_Deed→List G_Contact→List (List UInt8)→List Int→{R:Type}→(List (G_net_own×Bool)→List (Int×Int)→List G_Deed→List G_Contact→List (List UInt8)→List Int→Option R)→Option R
 | 0,_,_,_,_,_,_,_,_,_=>none
 | n + 1,m11,l12,v6,v7,v8,v9,v10,_,e0=>(yedy l12 (e0 m11 v6 v7 v8 v9 v10) fun x15 l16=>z8z_L3 g n m11 l16 (ydVy x15.1.f_no (w64 (((ycjy x15.1.f_no v6).getD 0) + 1)) v6) v7 v8 v9 v10 e0)
noncomputable def yjty (g:Nat) (a1:List G_Deed) (a2:List G_Contact) (a3:List (List UInt8)) (a4:List Int) (a5:List (G_net_own×Bool)) {R:Type} (k0:List (Int×Int)→List G_Deed→List G_Contact→List (List UInt8)→List Int→List (G_net_own×Bool)→Option R):Option R :=
 (z8z_L3 g g a5 a5 [] a1 a2 a3 a4 (fun e17 e18 e19 e20 e21 e22=>k0 e18 e19 e20 e21 e22 e17))
def yo2y (p:IV A×List (IV A)):Option ((List (Int×Int))×(List G_Deed)×(List G_Contact)×(List (List UInt8))×(List Int)×(List (G_net_own×Bool))):=match p with | (.mp 3 3 b1,[.box [.arr 71 b2,.arr 39 b3,.arr 9 b4,.arr 3 b5,.mp 182 4 b6]])=>some (b1,b2,b3,b4,b5,b6) | _=>none
def ygay (q:(List (Int×Int))×(List G_Deed)×(List G_Contact)×(List (List UInt8))×(List Int)×(List (G_net_own×Bool))):IV A×List (IV A):=(.mp 3 3 q.1,[.box [.arr 71 q.2.1,.arr 39 q.2.2.1,.arr 9 q.2.2.2.1,.arr 3 q.2.2.2.2.1,.mp 182 4 q.2.2.2.2.2]])
theorem yHmy (p:IV A×List (IV A)) (q:(List (Int×Int))×(List G_Deed)×(List G_Contact)×(List (List UInt8))×(List Int)×(List (G_net_own×Bool))) (h:yo2y p = some q):p = ygay q:=by unfold yo2y at h;split at h;(cases h;rfl);cases h
noncomputable def z8z_ (g:Nat) (a1:List G_Deed) (a2:List G_Contact) (a3:List (List UInt8)) (a4:List Int) (a5:List (G_net_own×Bool)) {R:Type} (k0:List (Int×Int)→List G_Deed→List G_Contact→List (List UInt8)→List Int→List (G_net_own×Bool)→Option R):Option R :=
 (yjty g a1 a2 a3 a4 a5 (fun z0 z1 z2 z3 z4 z5=>some (ygay (z0,z1,z2,z3,z4,z5)))).bind fun p=>(decK yo2y p (fun q=>k0 q.1 q.2.1 q.2.2.1 q.2.2.2.1 q.2.2.2.2.1 q.2.2.2.2.2) none)
noncomputable def z8z [Fuel]:T_z8z:=@z8z_ NN
def yfzy (g:T_z8z):Spec A:=fun args=>match args with | [.box [.arr 71 a1,.arr 39 a2,.arr 9 a3,.arr 3 a4,.mp 182 4 a5]]=>fun k=>g a1 a2 a3 a4 a5 (fun z0 z1 z2 z3 z4 z5=>k (.mp 3 3 z0) [.box [.arr 71 z1,.arr 39 z2,.arr 9 z3,.arr 3 z4,.mp 182 4 z5]]) | _=>fun _=>none
def ymay:SSt:=mkSh 21 12 [(0,.ptr 0 0),(3,.mp 6),(9,.mp 5)] [(0,.box [.own 71 7,.own 39 8,.own 9 9,.own 3 10,.mp 5]),(5,.gone (2,0)),(6,.mp 3 3),(7,.row 71),(8,.row 39),(9,.row 9),(10,.row 3)]
noncomputable def ygTy (g:Nat) (n:Nat) (m l:List (A 182×A 4)):LPT A:=fun ps=>match ps with | [.mp 3 3 p1,.d (.sl 71 p2),.d (.sl 39 p3),.d (.sl 9 p4),.d (.sl 3 p5)]=>fun K=>z8z_L3 g n m l p1 p2 p3 p4 p5 (fun z0 z1 z2 z3 z4 z5=>K .normal (mkSt 21 12 [(0,.ptr 0 0),(3,.mp 6)] [(0,some (.box [.own 71 7,.own 39 8,.own 9 9,.own 3 10,.mp 5])),(5,some (.mp 182 4 z0)),(6,some (.mp 3 3 z1)),(7,some (.row 71 z2)),(8,some (.row 39 z3)),(9,some (.row 9 z4)),(10,some (.row 3 z5))])) | _=>fun _=>none
noncomputable def yoNy:Code:=(Tryz.f210.body).getD .skip
noncomputable def E_z8z (g:Nat):Env A:=mkE [] [(4,[11]),(5,[6])] [(3,⟨[0,3,9],[],[0,5,6],[(0,0,71,7),(0,1,39,8),(0,2,9,9),(0,3,3,10)],[],[],[]⟩)] [(3,⟨[0,3],[],[0,5,6,7,8,9,10],[],[],[],[]⟩)] [] [] [] [] [] [0]
noncomputable def yAHy (g:Nat):Nat→Option (ybRy A):=fun i=>List.lookup i [(3,ydmy 5 182 4 ymay (ygTy g g))]
theorem ct_z8z [Fuel]:yahy (E_z8z NN).C:=ct_of (P:=Tryz.prog) (T:=T) .nil (by kernel_rfl)
noncomputable def ysay:RangeP:=(yd4y (sub [1,1,0,0] yoNy) (sub [1,1,0,1] yoNy)).get (by kernel_rfl)
theorem yDQy (g:Nat) (n:Nat):yyby (E_z8z g) g ysay 5 182 4 ymay (ygTy g) n:=by intro m l ps;unfold ygTy;split;exact .inr fun R K=>(by kernel_rfl);exact .inl fun R K=>rfl
theorem yB6y [Fuel]:ROk (E_z8z NN) (yAHy NN) NN ysay:=yzdy ymay (ygTy NN) (by kernel_rfl) (cuts0 (fun _=>rfl) (by kernel_rfl)) (fun m l ps R K=>by unfold ygTy;split <;> (try unfold z8z_L3) <;> rfl) (yDQy NN)
theorem yIwy (g:Nat):Same (yfzy (@yjty g)) (ymFy (E_z8z g) (yAHy g) Tryz.f210 yoNy 12 [0,1,2,3,4,5] [.asis] g):=by intro args;unfold yfzy;split;exact .inr fun R k=>(by kernel_rfl);exact .inl fun R k=>rfl
theorem yI6y (g:Nat):Whole (yfzy (@z8z_ g)) (yfzy (@yjty g)):=by
 intro args R k res h
 unfold yfzy at h
 split at h
 ·obtain ⟨p,hp,h⟩:=Option.bind_eq_some_iff.1 h
  exact ⟨p,hp,(yyky (inj:=ygay) yHmy (fun h=>(by cases h)) h)⟩
 ·cases h
theorem yJvy (g:Nat):yaIy (yfzy (@z8z_ g)):=by
 intro args R k
 unfold yfzy
 split
 ·unfold z8z_
  rw [Option.bind_assoc]
  exact congrArg (Option.bind _) (funext fun p=>(yyty (inj:=ygay) rfl))
 ·rfl
theorem yAwy [Fuel]:Ok 210 (yfzy (@z8z _)):=yH8y std .nil ⟨rfl,rfl,by kernel_rfl,rfl,rfl,rfl⟩ (yIwy NN) (yI6y NN) (yJvy NN) (cutsR (fun _=>rfl) .nil (.cons yB6y .nil) (by kernel_rfl) (by kernel_rfl)) Tryz.func210 (by kernel_rfl) (by kernel_rfl)
abbrev yvuy:Type 1:=List G_Deed→List G_Contact→List (List UInt8)→List Int→List (G_net_own×Bool)→{R:Type}→(Int→Int→List G_Deed→List G_Contact→List (List UInt8)→List Int→List (G_net_own×Bool)→Option R)→Option R
structure C_z12z where
 N:Nat
 z26z:yvry
 z8z:T_z8z
def z12z_L3 (g:C_z12z):Nat→Int→List (Int×Int)→List (G_net_own×Bool)→List (Int×Int)→List G_Deed→List G_Contact→List (List UInt8)→List Int→{R:Type}→(Int→Int→List (G_net_own×Bool)→List G_Deed→List G_Contact→List (List UInt8)→List Int→Option R)→(List (G_net_own×Bool)→List G_Deed→List G_Contact→List (List UInt8)→List Int→Option R)→Option R
 | 0,_,_,_,_,_,_,_,_,_,_,_=>none
 | n + 1,v18,v19,v20,v21,v22,v23,v24,v25,_,e0,e1=>(bif (decide (v18≤99999)) then (bif (((ycjy v18 v19).getD 0) == 0) then (bif (((ycjy v18 v21).getD 0) == 0) then e0 v18 0 v20 v22 v23 v24 v25 else z12z_L3 g n (w64 (v18 + 1)) v19 v20 v21 v22 v23 v24 v25 e0 e1) else z12z_L3 g n (w64 (v18 + 1)) v19 v20 v21 v22 v23 v24 v25 e0 e1) else e1 v20 v22 v23 v24 v25)
def z12z_ (g:C_z12z) (a1:List G_Deed) (a2:List G_Contact) (a3:List (List UInt8)) (a4:List Int) (a5:List (G_net_own×Bool)) {R:Type} (k0:Int→Int→List G_Deed→List G_Contact→List (List UInt8)→List Int→List (G_net_own×Bool)→Option R):Option R :=
 (g.z26z a1 a2 a3 a4 a5 (fun r6 r7 r8 r9 r10 r11=>(g.z8z r7 r8 r9 r10 r11 (fun r12 r13 r14 r15 r16 r17=>(z12z_L3 g g.N 1 r6 r17 r12 r13 r14 r15 r16 (fun e26 e27 e28 e29 e30 e31 e32=>k0 e26 e27 e29 e30 e31 e32 e28) (fun e33 e34 e35 e36 e37=>k0 0 12 e34 e35 e36 e37 e33))))))
noncomputable def yery [Fuel]:C_z12z:=⟨NN,@z26z _,@z8z _⟩
noncomputable def z12z [Fuel]:yvuy:=@z12z_ yery
def yAxy (args:List (IV A)):Bool:=match args with | [.box [.arr 71 _,.arr 39 _,.arr 9 _,.arr 3 _,.mp 182 4 _]]=>true | _=>false
def ynfy (g:yvuy):Spec A:=fun args=>match args with | [.box [.arr 71 a1,.arr 39 a2,.arr 9 a3,.arr 3 a4,.mp 182 4 a5]]=>fun k=>g a1 a2 a3 a4 a5 (fun z0 z1 z2 z3 z4 z5 z6=>k (.tup [.d (.int .i64 z0),.d (.int .i64 z1)]) [.box [.arr 71 z2,.arr 39 z3,.arr 9 z4,.arr 3 z5,.mp 182 4 z6]]) | _=>fun _=>none
def ykKy:SSt:=mkSh 26 22 [(0,.ptr 0 0),(4,.mp 11),(5,.mp 17),(6,.int .i64)] [(0,.box [.own 71 18,.own 39 19,.own 9 20,.own 3 21,.mp 16]),(11,.mp 3 3),(16,.mp 182 4),(17,.mp 3 3),(18,.row 71),(19,.row 39),(20,.row 9),(21,.row 3)]
def yfBy (g:C_z12z) (n:Nat):LPT A:=fun ps=>match ps with | [.d (.int .i64 p1),.mp 3 3 p2,.mp 182 4 p3,.mp 3 3 p4,.d (.sl 71 p5),.d (.sl 39 p6),.d (.sl 9 p7),.d (.sl 3 p8)]=>fun K=>z12z_L3 g n p1 p2 p3 p4 p5 p6 p7 p8 (fun z0 z1 z2 z3 z4 z5 z6=>K .ret (mkSt 26 22 [(0,.ptr 0 0),(2,.d (.int .i64 z0)),(3,.d (.int .i64 z1))] [(0,some (.box [.own 71 18,.own 39 19,.own 9 20,.own 3 21,.mp 16])),(16,some (.mp 182 4 z2)),(18,some (.row 71 z3)),(19,some (.row 39 z4)),(20,some (.row 9 z5)),(21,some (.row 3 z6))])) (fun z0 z1 z2 z3 z4=>K (.exit 0) (mkSt 26 22 [(0,.ptr 0 0)] [(0,some (.box [.own 71 18,.own 39 19,.own 9 20,.own 3 21,.mp 16])),(16,some (.mp 182 4 z0)),(18,some (.row 71 z1)),(19,some (.row 39 z2)),(20,some (.row 9 z3)),(21,some (.row 3 z4))])) | _=>fun _=>none
noncomputable def ypPy (g:C_z12z):Env A:=mkE [(209,ynDy g.z26z),(210,yfzy g.z8z)] [(8,[6,7,8,9,10,11]),(10,[12,13,14,15,16,17])] [(3,⟨[0,4,5,6],[],[0,11,16,17],[(0,0,71,18),(0,1,39,19),(0,2,9,20),(0,3,3,21)],[],[],[]⟩)] [(3,⟨[0,2,3],[],[0,16,18,19,20,21],[],[],[],[]⟩)] [(3,yajy ykKy (yfBy g g.N))] [] [] [] [] [0]
theorem yGyy [Fuel]:yahy (ypPy yery).C:=ct_of (P:=Tryz.prog) (T:=T) (.cons yyry (.cons yAwy .nil)) (by kernel_rfl)
noncomputable def ypKy:Code:=sub [1,1,0,1,0,0] ykqy
theorem yAFy (g:C_z12z) (n:Nat):yaCy (ypPy g) g.N ypKy ykKy (yfBy g) n:=by intro ps;unfold yfBy;split;exact .inr fun R K=>(by kernel_rfl);exact .inl fun R K=>rfl
theorem yzMy [Fuel]:yaiy (ypPy yery) NN ypKy:=yamy ykKy (yfBy yery) (by kernel_rfl) yGyy (cuts0 (fun _=>rfl) (by kernel_rfl)) (fun ps R K=>by unfold yfBy;split <;> (try unfold z12z_L3) <;> rfl) (yAFy yery)
theorem yENy (g:C_z12z):Same (ynfy (@z12z_ g)) (abody (ypPy g) Tryz.f163 ykqy 22 [0,1,2,3,4,5] [.asis,.asis] g.N):=by intro args;unfold ynfy;split;exact .inr fun R k=>(by kernel_rfl);exact .inl fun R k=>rfl
theorem yHry [Fuel]:Ok 163 (ynfy (@z12z _)):=yacy std (.cons yyry (.cons yAwy .nil)) ⟨rfl,rfl,by kernel_rfl,rfl,rfl,rfl⟩ (yENy yery) (cutsL (fun _=>rfl) (.cons yzMy .nil) (by kernel_rfl)) Tryz.func163 (by kernel_rfl) (by kernel_rfl)
abbrev ylly:Type 1:=List G_Deed→Int→{R:Type}→(Int→Int→Option R)→Option R
structure C_net_Next where
 N:Nat
 z73z:ywoy
 z12z:yvuy
 z60z:yv1y
def ymey (g:C_net_Next) (a1:List G_Deed) (a2:Int) {R:Type} (k0:Int→Int→Option R):Option R :=
 (g.z73z a1 a2 (fun r3=>(bif (r3 != 0) then k0 0 r3 else (g.z60z))) (fun r4 r5 r6 r7 r8 r9=>(bif (r9 != 0) then k0 0 r9 else (g.z12z r4 r5 r6 r7 r8 (fun r10 r11 r12 r13 r14 r15 r16=>k0 r10 r11)))))
noncomputable def yhmy [Fuel]:C_net_Next:=⟨NN,@z73z _,@z12z _,@z60z _⟩
noncomputable def net_Next [Fuel]:ylly:=@ymey yhmy
def ygHy (g:ylly):Spec A:=fun args=>match args with | [.d (.sl 71 a1),.d (.int .i64 a2)]=>fun k=>g a1 a2 (fun z0 z1=>k (.tup [.d (.int .i64 z0),.d (.int .i64 z1)]) [.undef,.undef]) | _=>fun _=>none
noncomputable def yC7y:Code:=(Tryz.f115.body).getD .skip
noncomputable def yzTy (g:C_net_Next):Env A:=mkE [(162,yn5y g.z73z),(163,orS yAxy (ynfy g.z12z) (ynTy g.z60z))] [(11,[0,1,2,3,4,5]),(18,[6,7,8,9,10])] [] [] [] [] [] [] [] []
theorem ywFy (g:C_net_Next):Same (ygHy (@ymey g)) (abody (yzTy g) Tryz.f115 yC7y 11 [] [.asis,.asis] g.N):=by intro args;unfold ygHy;split;exact .inr fun R k=>(by kernel_rfl);exact .inl fun R k=>rfl
theorem ywqy [Fuel]:Ok 115 (ygHy (@net_Next _)):=yacy std (.cons yGPy (.cons (ok_or yAxy yHry yGxy) .nil)) ⟨rfl,rfl,by kernel_rfl,rfl,rfl,rfl⟩ (ywFy yhmy) (cuts0 (fun _=>rfl) (by kernel_rfl)) Tryz.func115 (by kernel_rfl) (by kernel_rfl)
abbrev yiiy:Type 1:={R:Type}→(Bool→Option R)→Option R
structure C_law_netted where
 N:Nat
 net_Next:ylly
def yory (g:C_law_netted)  {R:Type} (k0:Bool→Option R):Option R :=
 (g.net_Next [(⟨[97],1,0,3,(⟨0,0,[],[],1,0,[],[]⟩:G_Contact),[],[],0⟩:G_Deed)] 0 (fun r1 r2=>(bif (r2 == 0) then k0 (r1 == 2) else k0 false)))
noncomputable def yfty [Fuel]:C_law_netted:=⟨NN,@net_Next _⟩
noncomputable def law_netted [Fuel]:yiiy:=@yory yfty
def yeKy (g:yiiy):Spec A:=fun args=>match args with | []=>fun k=>g (fun z0=>k (.d (.bool z0)) []) | _=>fun _=>none
noncomputable def yFfy:Code:=(Tryz.f43.body).getD .skip
noncomputable def yt6y (g:C_law_netted):Env A:=mkE [(115,ygHy g.net_Next)] [(6,[0])] [] [] [] [] [] [] [] []
theorem ysOy (g:C_law_netted):Same (yeKy (@yory g)) (abody (yt6y g) Tryz.f43 yFfy 1 [] [.asis] g.N):=by intro args;unfold yeKy;split;exact .inr fun R k=>(by kernel_rfl);exact .inl fun R k=>rfl
theorem ys6y [Fuel]:Ok 43 (yeKy (@law_netted _)):=yacy std (.cons ywqy .nil) ⟨rfl,rfl,by kernel_rfl,rfl,rfl,rfl⟩ (ysOy yfty) (cuts0 (fun _=>rfl) (by kernel_rfl)) Tryz.func43 (by kernel_rfl) (by kernel_rfl)
end Go.Am
