/- The functions of the program as Lean functions, each shown to be what the code computes, part 7. No condition: lemmas for the claim. -/
import Derived.Test.YtphcgliehecbkaaGreatDoorF0
import Derived.Test.YtphcgliehecbkaaGreatDoorFSh
import Derived.Test.YtphcgliehecbkaaGreatDoorF6
set_option linter.unusedVariables false
set_option maxRecDepth 100000
namespace Go.Am
open Go Go.Proofs
abbrev ys5y:Type 1:=List G_Deed→Int→{R:Type}→(Int→Option R)→(List G_Deed→List G_Contact→List (List UInt8)→List Int→List (G_net_own×Bool)→Int→Option R)→Option R
structure C_z17z where
 N:Nat
 z12z:yuEy
 net_key:yljy
 z32z:yt8y
def z17z_L4 (g:C_z17z):Nat→List G_Deed→Int→Int→List (G_net_own×Bool)→List (G_Contact×G_Deed)→List Int→List G_Deed→List G_Contact→List (List UInt8)→List Int→{R:Type}→(List (G_net_own×Bool)→List (G_Contact×G_Deed)→List G_Deed→List G_Contact→List (List UInt8)→List Int→Option R)→Option R
 | 0,_,_,_,_,_,_,_,_,_,_,_,_=>none
 | n + 1,v4,v5,v6,v7,v8,v9,v10,v11,v12,v13,_,e0=>(bif (decide (v6 < v5)) then (inr v9 v6 (at_ v9 v6 fun x26=>(get_ v4 x26 fun x27=>(bif (decide ((v10.length + [x27].length) * 176≤yady)) then (bif (x27.f_Kind == 3) then (bif (x27.f_Kind != 1) then z17z_L4 g n v4 v5 (w64 (v6 + 1)) (yaEy (⟨x27.f_Site,x27.f_Contact.f_Sent⟩:G_net_own) true v7) v8 v9 (v10 ++ [x27]) v11 v12 v13 e0 else (g.net_key x27.f_Contact (fun r28=>(bif (yany r28 v8).isSome then (bif (decide ((v13.length + [x26].length) * 8≤yady)) then z17z_L4 g n v4 v5 (w64 (v6 + 1)) (yaEy (⟨x27.f_Site,x27.f_Contact.f_Sent⟩:G_net_own) true v7) v8 v9 (v10 ++ [x27]) v11 v12 (v13 ++ [x26]) e0 else none) else (g.net_key x27.f_Contact (fun r29=>(bif (decide ((v11.length + [x27.f_Contact].length) * 96≤yady)) then z17z_L4 g n v4 v5 (w64 (v6 + 1)) (yaEy (⟨x27.f_Site,x27.f_Contact.f_Sent⟩:G_net_own) true v7) (yaQy r29 x27 v8) v9 (v10 ++ [x27]) (v11 ++ [x27.f_Contact]) v12 v13 e0 else none))))))) else (bif (x27.f_Kind == 4) then (bif (x27.f_Kind == 4) then (bif (x27.f_Kind != 1) then z17z_L4 g n v4 v5 (w64 (v6 + 1)) (yaCy (⟨x27.f_Site,x27.f_Contact.f_Sent⟩:G_net_own) v7) v8 v9 (v10 ++ [x27]) v11 v12 v13 e0 else (g.net_key x27.f_Contact (fun r30=>(bif (yany r30 v8).isSome then (bif (decide ((v13.length + [x26].length) * 8≤yady)) then z17z_L4 g n v4 v5 (w64 (v6 + 1)) (yaCy (⟨x27.f_Site,x27.f_Contact.f_Sent⟩:G_net_own) v7) v8 v9 (v10 ++ [x27]) v11 v12 (v13 ++ [x26]) e0 else none) else (g.net_key x27.f_Contact (fun r31=>(bif (decide ((v11.length + [x27.f_Contact].length) * 96≤yady)) then z17z_L4 g n v4 v5 (w64 (v6 + 1)) (yaCy (⟨x27.f_Site,x27.f_Contact.f_Sent⟩:G_net_own) v7) (yaQy r31 x27 v8) v9 (v10 ++ [x27]) (v11 ++ [x27.f_Contact]) v12 v13 e0 else none))))))) else (bif (x27.f_Kind != 1) then z17z_L4 g n v4 v5 (w64 (v6 + 1)) v7 v8 v9 (v10 ++ [x27]) v11 v12 v13 e0 else (g.net_key x27.f_Contact (fun r32=>(bif (yany r32 v8).isSome then (bif (decide ((v13.length + [x26].length) * 8≤yady)) then z17z_L4 g n v4 v5 (w64 (v6 + 1)) v7 v8 v9 (v10 ++ [x27]) v11 v12 (v13 ++ [x26]) e0 else none) else (g.net_key x27.f_Contact (fun r33=>(bif (decide ((v11.length + [x27.f_Contact].length) * 96≤yady)) then z17z_L4 g n v4 v5 (w64 (v6 + 1)) v7 (yaQy r33 x27 v8) v9 (v10 ++ [x27]) (v11 ++ [x27.f_Contact]) v12 v13 e0 else none)))))))) else (bif (x27.f_Kind == 1) then (bif (x27.f_Kind != 1) then z17z_L4 g n v4 v5 (w64 (v6 + 1)) (yaCy (⟨x27.f_Site,x27.f_Contact.f_Sent⟩:G_net_own) v7) v8 v9 (v10 ++ [x27]) v11 v12 v13 e0 else (g.net_key x27.f_Contact (fun r34=>(bif (yany r34 v8).isSome then (bif (decide ((v13.length + [x26].length) * 8≤yady)) then z17z_L4 g n v4 v5 (w64 (v6 + 1)) (yaCy (⟨x27.f_Site,x27.f_Contact.f_Sent⟩:G_net_own) v7) v8 v9 (v10 ++ [x27]) v11 v12 (v13 ++ [x26]) e0 else none) else (g.net_key x27.f_Contact (fun r35=>(bif (decide ((v11.length + [x27.f_Contact].length) * 96≤yady)) then z17z_L4 g n v4 v5 (w64 (v6 + 1)) (yaCy (⟨x27.f_Site,x27.f_Contact.f_Sent⟩:G_net_own) v7) (yaQy r35 x27 v8) v9 (v10 ++ [x27]) (v11 ++ [x27.f_Contact]) v12 v13 e0 else none))))))) else (bif (x27.f_Kind != 1) then z17z_L4 g n v4 v5 (w64 (v6 + 1)) v7 v8 v9 (v10 ++ [x27]) v11 v12 v13 e0 else (g.net_key x27.f_Contact (fun r36=>(bif (yany r36 v8).isSome then (bif (decide ((v13.length + [x26].length) * 8≤yady)) then z17z_L4 g n v4 v5 (w64 (v6 + 1)) v7 v8 v9 (v10 ++ [x27]) v11 v12 (v13 ++ [x26]) e0 else none) else (g.net_key x27.f_Contact (fun r37=>(bif (decide ((v11.length + [x27.f_Contact].length) * 96≤yady)) then z17z_L4 g n v4 v5 (w64 (v6 + 1)) v7 (yaQy r37 x27 v8) v9 (v10 ++ [x27]) (v11 ++ [x27.f_Contact]) v12 v13 e0 else none)))))))))) else none)))) else e0 v7 v8 v10 v11 v12 v13)
def z17z_L25 (g:C_z17z):Nat→Int→Int→List (G_net_own×Bool)→List (G_Contact×G_Deed)→List G_Deed→List G_Contact→List (List UInt8)→List Int→{R:Type}→(List (G_net_own×Bool)→List G_Deed→List G_Contact→List (List UInt8)→List Int→Option R)→Option R
 | 0,_,_,_,_,_,_,_,_,_,_=>none
 | n + 1,v45,v46,v47,v48,v49,v50,v51,v52,_,e0=>(bif (decide (v46 < v45)) then (inr v50 v46 (at_ v50 v46 fun x55=>(g.net_key x55 (fun r56=>(bif (decide ((v51.length + [((yany r56 v48).getD (⟨[],0,0,0,(⟨0,0,[],[],0,0,[],[]⟩:G_Contact),[],[],0⟩:G_Deed)).f_Site].length) * 16≤yady)) then z17z_L25 g n v45 (w64 (v46 + 1)) v47 v48 v49 v50 (v51 ++ [((yany r56 v48).getD (⟨[],0,0,0,(⟨0,0,[],[],0,0,[],[]⟩:G_Contact),[],[],0⟩:G_Deed)).f_Site]) v52 e0 else none))))) else e0 v47 v49 v50 v51 v52)
def z17z_ (g:C_z17z) (a1:List G_Deed) (a2:Int) {R:Type} (k0:Int→Option R) (k1:List G_Deed→List G_Contact→List (List UInt8)→List Int→List (G_net_own×Bool)→Int→Option R):Option R :=
 (g.z12z a1 a2 (fun r3=>(z17z_L4 g g.N a1 (r3.length:Int) 0 [] [] r3 [] [] [] [] (fun e38 e39 e40 e41 e42 e43=>(bif (decide ((e41.length:Int) > 2000)) then k0 2 else (g.z32z e41 (fun r44=>(z17z_L25 g g.N (r44.length:Int) 0 e38 e39 e40 r44 e42 e43 (fun e57 e58 e59 e60 e61=>k1 e58 e59 e60 e61 e57 0)))))))))
noncomputable def ya3y [Fuel]:C_z17z:=⟨NN,@z12z _,@net_key _,@z32z _⟩
noncomputable def z17z [Fuel]:ys5y:=@z17z_ ya3y
def ymcy (g:ys5y):Spec A:=fun args=>match args with | [.d (.sl 35 a1),.d (.int .i64 a2)]=>fun k=>g a1 a2 (fun z0=>k (.tup [.d (.lit (.pointer none)),.d (.int .i64 z0)]) [.undef,.undef]) (fun z0 z1 z2 z3 z4 z5=>k (.tup [.box [.arr 35 z0,.arr 33 z1,.arr 9 z2,.arr 3 z3,.mp 67 4 z4],.d (.int .i64 z5)]) [.undef,.undef]) | _=>fun _=>none
def yjfy:SSt:=mkSh 143 23 [(0,.sl 35),(6,.ptr 1 0),(7,.mp 2),(21,.own 3 3),(22,.int .i64),(23,.int .i64)] [(0,.mp 67 4),(1,.box [.own 35 4,.own 33 5,.own 9 6,.own 3 7,.mp 0]),(2,.mp 33 35),(3,.row 3),(4,.row 35),(5,.row 33),(6,.row 9),(7,.row 3)]
def ye2y (g:C_z17z) (n:Nat):LPT A:=fun ps=>match ps with | [.d (.sl 35 p1),.d (.int .i64 p2),.d (.int .i64 p3),.mp 67 4 p4,.mp 33 35 p5,.d (.sl 3 p6),.d (.sl 35 p7),.d (.sl 33 p8),.d (.sl 9 p9),.d (.sl 3 p10)]=>fun K=>z17z_L4 g n p1 p2 p3 p4 p5 p6 p7 p8 p9 p10 (fun z0 z1 z2 z3 z4 z5=>K (.exit 0) (mkSt 143 23 [(6,.ptr 1 0),(7,.mp 2)] [(0,some (.mp 67 4 z0)),(1,some (.box [.own 35 4,.own 33 5,.own 9 6,.own 3 7,.mp 0])),(2,some (.mp 33 35 z1)),(4,some (.row 35 z2)),(5,some (.row 33 z3)),(6,some (.row 9 z4)),(7,some (.row 3 z5))])) | _=>fun _=>none
def yiby:SSt:=mkSh 143 23 [(6,.ptr 1 0),(7,.mp 2),(121,.own 33 17),(122,.int .i64),(123,.int .i64)] [(0,.mp 67 4),(1,.box [.own 35 16,.own 33 17,.own 9 18,.own 3 19,.mp 0]),(2,.mp 33 35),(16,.row 35),(17,.row 33),(18,.row 9),(19,.row 3)]
def ydBy (g:C_z17z) (n:Nat):LPT A:=fun ps=>match ps with | [.d (.int .i64 p1),.d (.int .i64 p2),.mp 67 4 p3,.mp 33 35 p4,.d (.sl 35 p5),.d (.sl 33 p6),.d (.sl 9 p7),.d (.sl 3 p8)]=>fun K=>z17z_L25 g n p1 p2 p3 p4 p5 p6 p7 p8 (fun z0 z1 z2 z3 z4=>K (.exit 3) (mkSt 143 23 [(6,.ptr 1 0)] [(0,some (.mp 67 4 z0)),(1,some (.box [.own 35 16,.own 33 17,.own 9 18,.own 3 19,.mp 0])),(16,some (.row 35 z1)),(17,some (.row 33 z2)),(18,some (.row 9 z3)),(19,some (.row 3 z4))])) | _=>fun _=>none
noncomputable def yqRy:Code:=(Tryz.f66.body).getD .skip
noncomputable def yiZy (g:C_z17z):Env A:=mkE [(55,ydcy g.z12z),(104,ygFy g.net_key),(105,yiQy g.z32z)] [(10,[8]),(11,[11]),(14,[20]),(15,[0]),(17,[1]),(18,[2]),(21,[3]),(37,[9]),(38,[10]),(86,[12]),(87,[13]),(102,[14]),(103,[15]),(137,[21]),(138,[22])] [(4,⟨[0,6,7,21,22,23],[],[0,1,2,3],[(1,0,35,4),(1,1,33,5),(1,2,9,6),(1,3,3,7)],[],[],[]⟩),(25,⟨[6,7,121,122,123],[],[0,1,2],[(1,0,35,16),(1,1,33,17),(1,2,9,18),(1,3,3,19)],[],[],[]⟩)] [(4,⟨[6,7],[],[0,1,2,4,5,6,7],[],[],[],[]⟩),(25,⟨[6],[],[0,1,16,17,18,19],[],[],[],[]⟩)] [(4,yaiy yjfy (ye2y g g.N)),(25,yaiy yiby (ydBy g g.N))] [] [] [] [(105,0)] []
theorem yxcy [Fuel]:yajy (yiZy ya3y).C:=ct_of (P:=Tryz.prog) (T:=T) (.cons ywNy (.cons yoLy (.cons yw8y .nil))) (by kernel_rfl)
noncomputable def ypCy:Code:=sub [1,1,1,0,1,0,0] yqRy
theorem yANy (g:C_z17z) (n:Nat):yamy (yiZy g) g.N ypCy yjfy (ye2y g) n:=by intro ps; unfold ye2y; split; exact .inr fun R K=>(by kernel_rfl); exact .inl fun R K=>rfl
theorem yyjy [Fuel]:yagy (yiZy ya3y) NN ypCy:=yaky yjfy (ye2y ya3y) (by kernel_rfl) yxcy (cuts0 (fun _=>rfl) (by kernel_rfl)) (fun ps R K=>by unfold ye2y; split <;> (try unfold z17z_L4) <;> rfl) (yANy ya3y)
noncomputable def ym7y:Code:=sub [1,1,1,1,1,1,0,1,0,0] yqRy
theorem yzwy (g:C_z17z) (n:Nat):yamy (yiZy g) g.N ym7y yiby (ydBy g) n:=by intro ps; unfold ydBy; split; exact .inr fun R K=>(by kernel_rfl); exact .inl fun R K=>rfl
theorem yvDy [Fuel]:yagy (yiZy ya3y) NN ym7y:=yaky yiby (ydBy ya3y) (by kernel_rfl) yxcy (cuts0 (fun _=>rfl) (by kernel_rfl)) (fun ps R K=>by unfold ydBy; split <;> (try unfold z17z_L25) <;> rfl) (yzwy ya3y)
theorem yEOy (g:C_z17z):Same (ymcy (@z17z_ g)) (abody (yiZy g) Tryz.f66 yqRy 23 [] [.asis,.asis] g.N):=by intro args; unfold ymcy; split; exact .inr fun R k=>(by kernel_rfl); exact .inl fun R k=>rfl
theorem yF7y [Fuel]:Ok 66 (ymcy (@z17z _)):=yacy std (.cons ywNy (.cons yoLy (.cons yw8y .nil))) ⟨rfl,rfl,by kernel_rfl,rfl,rfl,rfl⟩ (yEOy ya3y) (cutsL (fun _=>rfl) (.cons yyjy (.cons yvDy .nil)) (by kernel_rfl)) Tryz.func66 (by kernel_rfl) (by kernel_rfl)
abbrev yley:Type 1:=List G_Deed→Int→{R:Type}→(Int→Option R)→(List G_Deed→List G_Contact→List (List UInt8)→List Int→List (G_net_own×Bool)→Int→Option R)→Option R
structure C_z51z where
 N:Nat
 z70z:yvuy
 z17z:ys5y
def z51z_ (g:C_z51z) (a1:List G_Deed) (a2:Int) {R:Type} (k0:Int→Option R) (k1:List G_Deed→List G_Contact→List (List UInt8)→List Int→List (G_net_own×Bool)→Int→Option R):Option R :=
 (g.z70z a1 a2 (fun r3=>(bif (r3 != 0) then k0 r3 else (g.z17z a1 a2 (fun r4=>k0 r4) (fun r5 r6 r7 r8 r9 r10=>k1 r5 r6 r7 r8 r9 r10)))))
noncomputable def yhgy [Fuel]:C_z51z:=⟨NN,@z70z _,@z17z _⟩
noncomputable def z51z [Fuel]:yley:=@z51z_ yhgy
def ygSy (g:yley):Spec A:=fun args=>match args with | [.d (.sl 35 a1),.d (.int .i64 a2)]=>fun k=>g a1 a2 (fun z0=>k (.tup [.d (.lit (.pointer none)),.d (.int .i64 z0)]) [.undef,.undef]) (fun z0 z1 z2 z3 z4 z5=>k (.tup [.box [.arr 35 z0,.arr 33 z1,.arr 9 z2,.arr 3 z3,.mp 67 4 z4],.d (.int .i64 z5)]) [.undef,.undef]) | _=>fun _=>none
noncomputable def yE3y:Code:=(Tryz.f35.body).getD .skip
noncomputable def yH0y (g:C_z51z):Env A:=mkE [(54,ylKy g.z70z),(66,ymcy g.z17z)] [(15,[0,1,2,3,4,5])] [] [] [] [] [] [] [] []
theorem yGMy (g:C_z51z):Same (ygSy (@z51z_ g)) (abody (yH0y g) Tryz.f35 yE3y 6 [] [.asis,.asis] g.N):=by intro args; unfold ygSy; split; exact .inr fun R k=>(by kernel_rfl); exact .inl fun R k=>rfl
theorem yqxy [Fuel]:Ok 35 (ygSy (@z51z _)):=yacy std (.cons yHEy (.cons yF7y .nil)) ⟨rfl,rfl,by kernel_rfl,rfl,rfl,rfl⟩ (yGMy yhgy) (cuts0 (fun _=>rfl) (by kernel_rfl)) Tryz.func35 (by kernel_rfl) (by kernel_rfl)
abbrev ylgy:Type 1:=List G_Deed→Int→{R:Type}→(List G_Contact→List Int→Int→Option R)→Option R
structure C_net_Log where
 N:Nat
 z51z:yley
def yfGy (g:C_net_Log) (a1:List G_Deed) (a2:Int) {R:Type} (k0:List G_Contact→List Int→Int→Option R):Option R :=
 (g.z51z a1 a2 (fun r3=>(bif (r3 != 0) then k0 [] [] r3 else none)) (fun r4 r5 r6 r7 r8 r9=>(bif (r9 != 0) then k0 [] [] r9 else k0 r5 r7 0)))
noncomputable def yd9y [Fuel]:C_net_Log:=⟨NN,@z51z _⟩
noncomputable def net_Log [Fuel]:ylgy:=@yfGy yd9y
def ygIy (g:ylgy):Spec A:=fun args=>match args with | [.d (.sl 35 a1),.d (.int .i64 a2)]=>fun k=>g a1 a2 (fun z0 z1 z2=>k (.tup [.arr 33 z0,.arr 3 z1,.d (.int .i64 z2)]) [.undef,.undef]) | _=>fun _=>none
noncomputable def yIDy:Code:=(Tryz.f8.body).getD .skip
noncomputable def yB0y (g:C_net_Log):Env A:=mkE [(35,ygSy g.z51z)] [(12,[0,1,2,3,4,5])] [] [] [] [] [] [] [] []
theorem yypy (g:C_net_Log):Same (ygIy (@yfGy g)) (abody (yB0y g) Tryz.f8 yIDy 6 [] [.arr 33,.arr 3,.asis] g.N):=by intro args; unfold ygIy; split; exact .inr fun R k=>(by kernel_rfl); exact .inl fun R k=>rfl
theorem yzBy [Fuel]:Ok 8 (ygIy (@net_Log _)):=yacy std (.cons yqxy .nil) ⟨rfl,rfl,by kernel_rfl,rfl,rfl,rfl⟩ (yypy yd9y) (cuts0 (fun _=>rfl) (by kernel_rfl)) Tryz.func8 (by kernel_rfl) (by kernel_rfl)
abbrev yvry:Type 1:=List G_Contact→{R:Type}→(List G_Contact→Option R)→Option R
def z39z_L2 (g:Nat):Nat→Int→Int→List G_Contact→G_Contact→{R:Type}→(List G_Contact→Option R)→Option R
 | 0,_,_,_,_,_,_=>none
 | n + 1,v2,v3,v4,v5,_,e0=>(bif (decide (v3 < v2)) then (inr v4 v3 (at_ v4 v3 fun x7=>z39z_L2 g n v2 (w64 (v3 + 1)) (set_ v4 v3 v5) v5 e0)) else e0 v4)
def z39z_ (g:Nat) (a1:List G_Contact) {R:Type} (k0:List G_Contact→Option R):Option R :=
 (z39z_L2 g g (a1.length:Int) 0 a1 (⟨0,0,[],[],0,0,[],[]⟩:G_Contact) (fun e8=>k0 e8))
noncomputable def z39z [Fuel]:yvry:=@z39z_ NN
def ylTy (g:yvry):Spec A:=fun args=>match args with | [.arr 33 a1]=>fun k=>g a1 (fun z0=>k (.tup []) [.arr 33 z0]) | _=>fun _=>none
def yjjy:SSt:=mkSh 14 2 [(0,.own 33 0),(2,.ptr 1 0),(5,.int .i64),(6,.int .i64)] [(0,.row 33),(1,.box [.int .i64,.int .i64,.str,.str,.int .i64,.int .i64,.str,.str])]
def yeey (g:Nat) (n:Nat):LPT A:=fun ps=>match ps with | [.d (.int .i64 p1),.d (.int .i64 p2),.d (.sl 33 p3),.d (.int .i64 p4),.d (.int .i64 p5),.d (.str p6),.d (.str p7),.d (.int .i64 p8),.d (.int .i64 p9),.d (.str p10),.d (.str p11)]=>fun K=>z39z_L2 g n p1 p2 p3 ⟨p4,p5,p6,p7,p8,p9,p10,p11⟩ (fun z0=>K (.exit 0) (mkSt 14 2 [(0,.own 33 0)] [(0,some (.row 33 z0))])) | _=>fun _=>none
noncomputable def yAry:Code:=(Tryz.f9.body).getD .skip
noncomputable def yoDy (g:Nat):Env A:=mkE [] [(2,[1])] [(2,⟨[0,2,5,6],[],[0,1],[],[],[],[]⟩)] [(2,⟨[0],[],[0],[],[],[],[]⟩)] [(2,yaiy yjjy (yeey g g))] [] [] [] [] [0]
theorem yGgy [Fuel]:yajy (yoDy NN).C:=ct_of (P:=Tryz.prog) (T:=T) .nil (by kernel_rfl)
noncomputable def yp7y:Code:=sub [1,1,0,0] yAry
theorem yB7y (g:Nat) (n:Nat):yamy (yoDy g) g yp7y yjjy (yeey g) n:=by intro ps; unfold yeey; split; exact .inr fun R K=>(by kernel_rfl); exact .inl fun R K=>rfl
theorem yyGy [Fuel]:yagy (yoDy NN) NN yp7y:=yaky yjjy (yeey NN) (by kernel_rfl) yGgy (cuts0 (fun _=>rfl) (by kernel_rfl)) (fun ps R K=>by unfold yeey; split <;> (try unfold z39z_L2) <;> rfl) (yB7y NN)
theorem yFyy (g:Nat):Same (ylTy (@z39z_ g)) (abody (yoDy g) Tryz.f9 yAry 2 [0] [] g):=by intro args; unfold ylTy; split; exact .inr fun R k=>(by kernel_rfl); exact .inl fun R k=>rfl
theorem yEny [Fuel]:Ok 9 (ylTy (@z39z _)):=yacy std .nil ⟨rfl,rfl,by kernel_rfl,rfl,rfl,rfl⟩ (yFyy NN) (cutsL (fun _=>rfl) (.cons yyGy .nil) (by kernel_rfl)) Tryz.func9 (by kernel_rfl) (by kernel_rfl)
abbrev yszy:Type 1:=List Int→{R:Type}→(List Int→Option R)→Option R
def z52z_L2 (g:Nat):Nat→Int→Int→Int→List Int→{R:Type}→(List Int→Option R)→Option R
 | 0,_,_,_,_,_,_=>none
 | n + 1,v2,v3,v4,v5,_,e0=>(bif (decide (v4 < v3)) then (inr v5 v4 (at_ v5 v4 fun x7=>z52z_L2 g n v2 v3 (w64 (v4 + 1)) (set_ v5 v4 v2) e0)) else e0 v5)
def z52z_ (g:Nat) (a1:List Int) {R:Type} (k0:List Int→Option R):Option R :=
 (z52z_L2 g g 0 (a1.length:Int) 0 a1 (fun e8=>k0 e8))
noncomputable def z52z [Fuel]:yszy:=@z52z_ NN
def ylSy (g:yszy):Spec A:=fun args=>match args with | [.arr 3 a1]=>fun k=>g a1 (fun z0=>k (.tup []) [.arr 3 z0]) | _=>fun _=>none
def yj4y:SSt:=mkSh 14 1 [(0,.own 3 0),(2,.int .i64),(5,.int .i64),(6,.int .i64)] [(0,.row 3)]
def yeIy (g:Nat) (n:Nat):LPT A:=fun ps=>match ps with | [.d (.int .i64 p1),.d (.int .i64 p2),.d (.int .i64 p3),.d (.sl 3 p4)]=>fun K=>z52z_L2 g n p1 p2 p3 p4 (fun z0=>K (.exit 0) (mkSt 14 1 [(0,.own 3 0)] [(0,some (.row 3 z0))])) | _=>fun _=>none
noncomputable def yxXy:Code:=(Tryz.f10.body).getD .skip
noncomputable def yoXy (g:Nat):Env A:=mkE [] [] [(2,⟨[0,2,5,6],[],[0],[],[],[],[]⟩)] [(2,⟨[0],[],[0],[],[],[],[]⟩)] [(2,yaiy yj4y (yeIy g g))] [] [] [] [] [0]
theorem yGSy [Fuel]:yajy (yoXy NN).C:=ct_of (P:=Tryz.prog) (T:=T) .nil (by kernel_rfl)
noncomputable def yn6y:Code:=sub [1,1,0,0] yxXy
theorem yB1y (g:Nat) (n:Nat):yamy (yoXy g) g yn6y yj4y (yeIy g) n:=by intro ps; unfold yeIy; split; exact .inr fun R K=>(by kernel_rfl); exact .inl fun R K=>rfl
theorem yysy [Fuel]:yagy (yoXy NN) NN yn6y:=yaky yj4y (yeIy NN) (by kernel_rfl) yGSy (cuts0 (fun _=>rfl) (by kernel_rfl)) (fun ps R K=>by unfold yeIy; split <;> (try unfold z52z_L2) <;> rfl) (yB1y NN)
theorem yE5y (g:Nat):Same (ylSy (@z52z_ g)) (abody (yoXy g) Tryz.f10 yxXy 1 [0] [] g):=by intro args; unfold ylSy; split; exact .inr fun R k=>(by kernel_rfl); exact .inl fun R k=>rfl
theorem yEDy [Fuel]:Ok 10 (ylSy (@z52z _)):=yacy std .nil ⟨rfl,rfl,by kernel_rfl,rfl,rfl,rfl⟩ (yE5y NN) (cutsL (fun _=>rfl) (.cons yysy .nil) (by kernel_rfl)) Tryz.func10 (by kernel_rfl) (by kernel_rfl)
abbrev yuOy:Type 1:={R:Type}→Option R
def z67z_ (g:Nat)  {R:Type}  : Option R :=
 none
noncomputable def z67z [Fuel]:yuOy:=@z67z_ NN
def ymOy (g:yuOy):Spec A:=fun args=>match args with | [.d (.lit (.pointer none))]=>fun k=>g | _=>fun _=>none
noncomputable def yl9y:Code:=(Tryz.f67.body).getD .skip
noncomputable def yAMy (g:Nat):Env A:=mkE [] [(6,[0])] [] [] [] [] [] [] [] []
noncomputable def yy7y:Code:=sub [1,1,0,1,0,0] yl9y
theorem yywy [Fuel]:yagy (yAMy NN) NN yy7y:=yd6y (by kernel_rfl)
theorem yHOy (g:Nat):Same (ymOy (@z67z_ g)) (abody (yAMy g) Tryz.f67 yl9y 1 [] [.arr 9] g):=by intro args; unfold ymOy; split; exact .inr fun R k=>(by kernel_rfl); exact .inl fun R k=>rfl
theorem yG8y [Fuel]:Ok 67 (ymOy (@z67z _)):=yacy std .nil ⟨rfl,rfl,by kernel_rfl,rfl,rfl,rfl⟩ (yHOy NN) (cutsL (fun _=>rfl) (.cons yywy .nil) (by kernel_rfl)) Tryz.func67 (by kernel_rfl) (by kernel_rfl)
abbrev yuny:Type 1:={R:Type}→Option R
structure C_z47z where
 N:Nat
 z67z:yuOy
def z47z_ (g:C_z47z)  {R:Type}  : Option R :=
 (g.z67z)
noncomputable def ylzy [Fuel]:C_z47z:=⟨NN,@z67z _⟩
noncomputable def z47z [Fuel]:yuny:=@z47z_ ylzy
def ymfy (g:yuny):Spec A:=fun args=>match args with | [.d (.lit (.pointer none))]=>fun k=>g | _=>fun _=>none
noncomputable def yeby:Code:=(Tryz.f36.body).getD .skip
noncomputable def yp6y (g:C_z47z):Env A:=mkE [(67,ymOy g.z67z)] [] [] [] [] [] [] [] [] []
noncomputable def yymy:Code:=sub [1,1,0,1,0,0,1,1,0,0,1,1,0,1,0,0] yeby
theorem yzhy [Fuel]:yagy (yp6y ylzy) NN yymy:=yd6y (by kernel_rfl)
noncomputable def yvTy:Code:=sub [1,1,0,1,0,0,1,1,0,0,1,1,1,0,1,0,0] yeby
theorem yvOy [Fuel]:yagy (yp6y ylzy) NN yvTy:=yd6y (by kernel_rfl)
noncomputable def yy5y:Code:=sub [1,1,0,1,0,0] yeby
theorem yzUy [Fuel]:yagy (yp6y ylzy) NN yy5y:=yd6y (by kernel_rfl)
theorem yFYy (g:C_z47z):Same (ymfy (@z47z_ g)) (abody (yp6y g) Tryz.f36 yeby 0 [] [.arr 46] g.N):=by intro args; unfold ymfy; split; exact .inr fun R k=>(by kernel_rfl); exact .inl fun R k=>rfl
theorem yGIy [Fuel]:Ok 36 (ymfy (@z47z _)):=yacy std (.cons yG8y .nil) ⟨rfl,rfl,by kernel_rfl,rfl,rfl,rfl⟩ (yFYy ylzy) (cutsL (fun _=>rfl) (.cons yzhy (.cons yvOy (.cons yzUy .nil))) (by kernel_rfl)) Tryz.func36 (by kernel_rfl) (by kernel_rfl)
abbrev yvzy:Type 1:=List G_Deed→List G_Contact→List (List UInt8)→List Int→List (G_net_own×Bool)→{R:Type}→(List (List UInt8)→List G_Deed→List G_Contact→List (List UInt8)→List Int→List (G_net_own×Bool)→Option R)→Option R
def z23z_L3 (g:Nat):Nat→Int→Int→List (G_net_own×Bool)→List (List UInt8×Bool)→List G_Deed→List G_Contact→List (List UInt8)→List Int→{R:Type}→(List (G_net_own×Bool)→List (List UInt8×Bool)→List G_Deed→List G_Contact→List (List UInt8)→List Int→Option R)→Option R
 | 0,_,_,_,_,_,_,_,_,_,_=>none
 | n + 1,v6,v7,v8,v9,v10,v11,v12,v13,_,e0=>(bif (decide (v7 < v6)) then (inr v10 v7 (at_ v10 v7 fun x15=>z23z_L3 g n v6 (w64 (v7 + 1)) v8 (ybiy x15.f_Site true v9) v10 v11 v12 v13 e0)) else e0 v8 v9 v10 v11 v12 v13)
def z23z_ (g:Nat) (a1:List G_Deed) (a2:List G_Contact) (a3:List (List UInt8)) (a4:List Int) (a5:List (G_net_own×Bool)) {R:Type} (k0:List (List UInt8)→List G_Deed→List G_Contact→List (List UInt8)→List Int→List (G_net_own×Bool)→Option R):Option R :=
 (z23z_L3 g g (a1.length:Int) 0 a5 [] a1 a2 a3 a4 (fun e16 e17 e18 e19 e20 e21=>(keys_ (srtK9 (List.map (fun p=>p.1) e17)) fun x22=>k0 x22 e18 e19 e20 e21 e16)))
noncomputable def z23z [Fuel]:yvzy:=@z23z_ NN
def ymQy (g:yvzy):Spec A:=fun args=>match args with | [.box [.arr 35 a1,.arr 33 a2,.arr 9 a3,.arr 3 a4,.mp 67 4 a5]]=>fun k=>g a1 a2 a3 a4 a5 (fun z0 z1 z2 z3 z4 z5=>k (.arr 9 z0) [.box [.arr 35 z1,.arr 33 z2,.arr 9 z3,.arr 3 z4,.mp 67 4 z5]]) | _=>fun _=>none
def yjMy:SSt:=mkSh 23 14 [(0,.ptr 0 0),(3,.mp 6),(10,.own 35 7),(11,.int .i64),(12,.int .i64)] [(0,.box [.own 35 7,.own 33 8,.own 9 9,.own 3 10,.mp 5]),(5,.mp 67 4),(6,.mp 9 4),(7,.row 35),(8,.row 33),(9,.row 9),(10,.row 3)]
def yfhy (g:Nat) (n:Nat):LPT A:=fun ps=>match ps with | [.d (.int .i64 p1),.d (.int .i64 p2),.mp 67 4 p3,.mp 9 4 p4,.d (.sl 35 p5),.d (.sl 33 p6),.d (.sl 9 p7),.d (.sl 3 p8)]=>fun K=>z23z_L3 g n p1 p2 p3 p4 p5 p6 p7 p8 (fun z0 z1 z2 z3 z4 z5=>K (.exit 0) (mkSt 23 14 [(0,.ptr 0 0),(3,.mp 6)] [(0,some (.box [.own 35 7,.own 33 8,.own 9 9,.own 3 10,.mp 5])),(5,some (.mp 67 4 z0)),(6,some (.mp 9 4 z1)),(7,some (.row 35 z2)),(8,some (.row 33 z3)),(9,some (.row 9 z4)),(10,some (.row 3 z5))])) | _=>fun _=>none
noncomputable def ypXy (g:Nat):Env A:=mkE [] [(5,[11]),(6,[6]),(21,[12]),(22,[13])] [(3,⟨[0,3,10,11,12],[],[0,5,6],[(0,0,35,7),(0,1,33,8),(0,2,9,9),(0,3,3,10)],[],[],[]⟩)] [(3,⟨[0,3],[],[0,5,6,7,8,9,10],[],[],[],[]⟩)] [(3,yaiy yjMy (yfhy g g))] [] [] [] [] [0]
theorem yFFy [Fuel]:yajy (ypXy NN).C:=ct_of (P:=Tryz.prog) (T:=T) .nil (by kernel_rfl)
noncomputable def yoiy:Code:=sub [1,1,0,1,0,0] yl9y
theorem yAKy (g:Nat) (n:Nat):yamy (ypXy g) g yoiy yjMy (yfhy g) n:=by intro ps; unfold yfhy; split; exact .inr fun R K=>(by kernel_rfl); exact .inl fun R K=>rfl
theorem yy9y [Fuel]:yagy (ypXy NN) NN yoiy:=yaky yjMy (yfhy NN) (by kernel_rfl) yFFy (cuts0 (fun _=>rfl) (by kernel_rfl)) (fun ps R K=>by unfold yfhy; split <;> (try unfold z23z_L3) <;> rfl) (yAKy NN)
theorem yEjy (g:Nat):Same (ymQy (@z23z_ g)) (abody (ypXy g) Tryz.f67 yl9y 14 [0,1,2,3,4,5] [.arr 9] g):=by intro args; unfold ymQy; split; exact .inr fun R k=>(by kernel_rfl); exact .inl fun R k=>rfl
theorem yxdy [Fuel]:Ok 67 (ymQy (@z23z _)):=yacy std .nil ⟨rfl,rfl,by kernel_rfl,rfl,rfl,rfl⟩ (yEjy NN) (cutsL (fun _=>rfl) (.cons yy9y .nil) (by kernel_rfl)) Tryz.func67 (by kernel_rfl) (by kernel_rfl)
abbrev T_z3z:Type 1:=List G_Deed→List G_Contact→List (List UInt8)→List Int→List (G_net_own×Bool)→{R:Type}→(List G_Desk→List G_Deed→List G_Contact→List (List UInt8)→List Int→List (G_net_own×Bool)→Option R)→Option R
structure C_z3z where
 N:Nat
 z23z:yvzy
def z3z_L7 (g:C_z3z):Nat→List UInt8→Int→Int→Int→Int→List (G_net_own×Bool)→List (List UInt8)→List G_Desk→G_Desk→List G_Deed→List G_Contact→List (List UInt8)→List Int→{R:Type}→(List UInt8→Int→Int→List (G_net_own×Bool)→List (List UInt8)→List G_Desk→G_Desk→List G_Deed→List G_Contact→List (List UInt8)→List Int→Option R)→Option R
 | 0,_,_,_,_,_,_,_,_,_,_,_,_,_,_,_=>none
 | n + 1,v74,v75,v76,v77,v78,v79,v80,v81,v82,v83,v84,v85,v86,_,e0=>(bif (decide (v78 < v77)) then (inr v83 v78 (at_ v83 v78 fun x88=>(bif (x88.f_Site == v74) then (bif (x88.f_Kind == 2) then z3z_L7 g n v74 v75 v76 v77 (w64 (v78 + 1)) v79 v80 v81 (⟨v82.f_Site,x88.f_Band,v82.f_Contacts⟩:G_Desk) v83 v84 v85 v86 e0 else z3z_L7 g n v74 v75 v76 v77 (w64 (v78 + 1)) v79 v80 v81 v82 v83 v84 v85 v86 e0) else z3z_L7 g n v74 v75 v76 v77 (w64 (v78 + 1)) v79 v80 v81 v82 v83 v84 v85 v86 e0))) else e0 v74 v75 v76 v79 v80 v81 v82 v83 v84 v85 v86)
def z3z_L13 (g:C_z3z):Nat→List UInt8→Int→Int→Int→Int→List (G_net_own×Bool)→List (List UInt8)→List G_Desk→G_Desk→List G_Deed→List G_Contact→List (List UInt8)→List Int→{R:Type}→(Int→Int→List (G_net_own×Bool)→List (List UInt8)→List G_Desk→G_Desk→List G_Deed→List G_Contact→List (List UInt8)→List Int→Option R)→Option R
 | 0,_,_,_,_,_,_,_,_,_,_,_,_,_,_,_=>none
 | n + 1,v100,v101,v102,v103,v104,v105,v106,v107,v108,v109,v110,v111,v112,_,e0=>(bif (decide (v104 < v103)) then (inr v111 v104 (at_ v111 v104 fun x114=>(bif (x114 == v100) then z3z_L13 g n v100 v101 v102 v103 (w64 (v104 + 1)) v105 v106 v107 (⟨v108.f_Site,v108.f_Band,(w64 (v108.f_Contacts + 1))⟩:G_Desk) v109 v110 v111 v112 e0 else z3z_L13 g n v100 v101 v102 v103 (w64 (v104 + 1)) v105 v106 v107 v108 v109 v110 v111 v112 e0))) else e0 v101 v102 v105 v106 v107 v108 v109 v110 v111 v112)
def z3z_L3 (g:C_z3z):Nat→Int→Int→List (G_net_own×Bool)→List (List UInt8)→List G_Desk→List G_Deed→List G_Contact→List (List UInt8)→List Int→{R:Type}→(List (G_net_own×Bool)→List G_Desk→List G_Deed→List G_Contact→List (List UInt8)→List Int→Option R)→Option R
 | 0,_,_,_,_,_,_,_,_,_,_,_=>none
 | n + 1,v12,v13,v14,v15,v16,v17,v18,v19,v20,_,e0=>(bif (decide (v13 < v12)) then (inr v15 v13 (at_ v15 v13 fun x73=>(z3z_L7 g g.N x73 v12 v13 (v17.length:Int) 0 v14 v15 v16 (⟨x73,[],0⟩:G_Desk) v17 v18 v19 v20 (fun e89 e90 e91 e92 e93 e94 e95 e96 e97 e98 e99=>(z3z_L13 g g.N e89 e90 e91 (e98.length:Int) 0 e92 e93 e94 e95 e96 e97 e98 e99 (fun e115 e116 e117 e118 e119 e120 e121 e122 e123 e124=>(bif (decide ((e119.length + [e120].length) * 40≤yady)) then z3z_L3 g n e115 (w64 (e116 + 1)) e117 e118 (e119 ++ [e120]) e121 e122 e123 e124 e0 else none))))))) else e0 v14 v16 v17 v18 v19 v20)
def z3z_ (g:C_z3z) (a1:List G_Deed) (a2:List G_Contact) (a3:List (List UInt8)) (a4:List Int) (a5:List (G_net_own×Bool)) {R:Type} (k0:List G_Desk→List G_Deed→List G_Contact→List (List UInt8)→List Int→List (G_net_own×Bool)→Option R):Option R :=
 (g.z23z a1 a2 a3 a4 a5 (fun r6 r7 r8 r9 r10 r11=>(z3z_L3 g g.N (r6.length:Int) 0 r11 r6 [] r7 r8 r9 r10 (fun e125 e126 e127 e128 e129 e130=>k0 e126 e127 e128 e129 e130 e125))))
noncomputable def I_z3z [Fuel]:C_z3z:=⟨NN,@z23z _⟩
noncomputable def z3z [Fuel]:T_z3z:=@z3z_ I_z3z
def p_z3z (args:List (IV A)):Bool:=match args with | [.box [.arr 35 _,.arr 33 _,.arr 9 _,.arr 3 _,.mp 67 4 _]]=>true | _=>false
def ypUy (g:T_z3z):Spec A:=fun args=>match args with | [.box [.arr 35 a1,.arr 33 a2,.arr 9 a3,.arr 3 a4,.mp 67 4 a5]]=>fun k=>g a1 a2 a3 a4 a5 (fun z0 z1 z2 z3 z4 z5=>k (.arr 46 z0) [.box [.arr 35 z1,.arr 33 z2,.arr 9 z3,.arr 3 z4,.mp 67 4 z5]]) | _=>fun _=>none
def ylby:SSt:=mkSh 65 29 [(0,.ptr 0 0),(3,.own 46 12),(5,.str),(6,.ptr 17 0),(12,.own 9 11),(13,.int .i64),(14,.int .i64),(23,.own 35 18),(24,.int .i64),(25,.int .i64)] [(0,.box [.own 35 18,.own 33 19,.own 9 20,.own 3 21,.mp 10]),(10,.mp 67 4),(11,.row 9),(12,.row 46),(17,.box [.str,.str,.int .i64]),(18,.row 35),(19,.row 33),(20,.row 9),(21,.row 3)]
def ygdy (g:C_z3z) (n:Nat):LPT A:=fun ps=>match ps with | [.d (.str p1),.d (.int .i64 p2),.d (.int .i64 p3),.d (.int .i64 p4),.d (.int .i64 p5),.mp 67 4 p6,.d (.sl 9 p7),.d (.sl 46 p8),.d (.str p9),.d (.str p10),.d (.int .i64 p11),.d (.sl 35 p12),.d (.sl 33 p13),.d (.sl 9 p14),.d (.sl 3 p15)]=>fun K=>z3z_L7 g n p1 p2 p3 p4 p5 p6 p7 p8 ⟨p9,p10,p11⟩ p12 p13 p14 p15 (fun z0 z1 z2 z3 z4 z5 z6 z7 z8 z9 z10=>K (.exit 2) (mkSt 65 29 [(0,.ptr 0 0),(3,.own 46 12),(5,.d (.str z0)),(6,.ptr 17 0),(12,.own 9 11),(13,.d (.int .i64 z1)),(14,.d (.int .i64 z2))] [(0,some (.box [.own 35 18,.own 33 19,.own 9 20,.own 3 21,.mp 10])),(10,some (.mp 67 4 z3)),(11,some (.row 9 z4)),(12,some (.row 46 z5)),(17,some (.box [.d (.str z6.f_Site),.d (.str z6.f_Band),.d (.int .i64 z6.f_Contacts)])),(18,some (.row 35 z7)),(19,some (.row 33 z8)),(20,some (.row 9 z9)),(21,some (.row 3 z10))])) | _=>fun _=>none
def yjQy:SSt:=mkSh 65 29 [(0,.ptr 0 0),(3,.own 46 12),(5,.str),(6,.ptr 17 0),(12,.own 9 11),(13,.int .i64),(14,.int .i64),(45,.own 9 25),(46,.int .i64),(47,.int .i64)] [(0,.box [.own 35 23,.own 33 24,.own 9 25,.own 3 26,.mp 10]),(10,.mp 67 4),(11,.row 9),(12,.row 46),(17,.box [.str,.str,.int .i64]),(23,.row 35),(24,.row 33),(25,.row 9),(26,.row 3)]
def yeEy (g:C_z3z) (n:Nat):LPT A:=fun ps=>match ps with | [.d (.str p1),.d (.int .i64 p2),.d (.int .i64 p3),.d (.int .i64 p4),.d (.int .i64 p5),.mp 67 4 p6,.d (.sl 9 p7),.d (.sl 46 p8),.d (.str p9),.d (.str p10),.d (.int .i64 p11),.d (.sl 35 p12),.d (.sl 33 p13),.d (.sl 9 p14),.d (.sl 3 p15)]=>fun K=>z3z_L13 g n p1 p2 p3 p4 p5 p6 p7 p8 ⟨p9,p10,p11⟩ p12 p13 p14 p15 (fun z0 z1 z2 z3 z4 z5 z6 z7 z8 z9=>K (.exit 4) (mkSt 65 29 [(0,.ptr 0 0),(3,.own 46 12),(6,.ptr 17 0),(12,.own 9 11),(13,.d (.int .i64 z0)),(14,.d (.int .i64 z1))] [(0,some (.box [.own 35 23,.own 33 24,.own 9 25,.own 3 26,.mp 10])),(10,some (.mp 67 4 z2)),(11,some (.row 9 z3)),(12,some (.row 46 z4)),(17,some (.box [.d (.str z5.f_Site),.d (.str z5.f_Band),.d (.int .i64 z5.f_Contacts)])),(23,some (.row 35 z6)),(24,some (.row 33 z7)),(25,some (.row 9 z8)),(26,some (.row 3 z9))])) | _=>fun _=>none
def ykNy:SSt:=mkSh 65 29 [(0,.ptr 0 0),(3,.own 46 12),(12,.own 9 11),(13,.int .i64),(14,.int .i64)] [(0,.box [.own 35 13,.own 33 14,.own 9 15,.own 3 16,.mp 10]),(10,.mp 67 4),(11,.row 9),(12,.row 46),(13,.row 35),(14,.row 33),(15,.row 9),(16,.row 3)]
def ygay (g:C_z3z) (n:Nat):LPT A:=fun ps=>match ps with | [.d (.int .i64 p1),.d (.int .i64 p2),.mp 67 4 p3,.d (.sl 9 p4),.d (.sl 46 p5),.d (.sl 35 p6),.d (.sl 33 p7),.d (.sl 9 p8),.d (.sl 3 p9)]=>fun K=>z3z_L3 g n p1 p2 p3 p4 p5 p6 p7 p8 p9 (fun z0 z1 z2 z3 z4 z5=>K (.exit 0) (mkSt 65 29 [(0,.ptr 0 0),(3,.own 46 12)] [(0,some (.box [.own 35 13,.own 33 14,.own 9 15,.own 3 16,.mp 10])),(10,some (.mp 67 4 z0)),(12,some (.row 46 z1)),(13,some (.row 35 z2)),(14,some (.row 33 z3)),(15,some (.row 9 z4)),(16,some (.row 3 z5))])) | _=>fun _=>none
noncomputable def E_z3z (g:C_z3z):Env A:=mkE [(67,ymQy g.z23z)] [(6,[17]),(8,[22]),(12,[6,7,8,9,10,11]),(61,[27]),(62,[28])] [(7,⟨[0,3,5,6,12,13,14,23,24,25],[],[0,10,11,12,17],[(0,0,35,18),(0,1,33,19),(0,2,9,20),(0,3,3,21)],[],[],[]⟩),(13,⟨[0,3,5,6,12,13,14,45,46,47],[],[0,10,11,12,17],[(0,0,35,23),(0,1,33,24),(0,2,9,25),(0,3,3,26)],[],[],[]⟩),(3,⟨[0,3,12,13,14],[(3,46,12)],[0,10,11],[(0,0,35,13),(0,1,33,14),(0,2,9,15),(0,3,3,16)],[],[],[]⟩)] [(7,⟨[0,3,5,6,12,13,14],[],[0,10,11,12,17,18,19,20,21],[],[],[],[]⟩),(13,⟨[0,3,6,12,13,14],[],[0,10,11,12,17,23,24,25,26],[],[],[],[]⟩),(3,⟨[0,3],[],[0,10,12,13,14,15,16],[],[],[],[]⟩)] [(7,yaiy ylby (ygdy g g.N)),(13,yaiy yjQy (yeEy g g.N)),(3,yaiy ykNy (ygay g g.N))] [] [] [] [] [0]
theorem ysey [Fuel]:yajy (E_z3z I_z3z).C:=ct_of (P:=Tryz.prog) (T:=T) (.cons yxdy .nil) (by kernel_rfl)
noncomputable def yrEy:Code:=sub [1,1,0,1,0,0,1,1,0,0,1,1,0,1,0,0] yeby
theorem yCOy (g:C_z3z) (n:Nat):yamy (E_z3z g) g.N yrEy ylby (ygdy g) n:=by intro ps; unfold ygdy; split; exact .inr fun R K=>(by kernel_rfl); exact .inl fun R K=>rfl
theorem yroy [Fuel]:yagy (E_z3z I_z3z) NN yrEy:=yaky ylby (ygdy I_z3z) (by kernel_rfl) ysey (cuts0 (fun _=>rfl) (by kernel_rfl)) (fun ps R K=>by unfold ygdy; split <;> (try unfold z3z_L7) <;> rfl) (yCOy I_z3z)
noncomputable def yo3y:Code:=sub [1,1,0,1,0,0,1,1,0,0,1,1,1,0,1,0,0] yeby
theorem yByy (g:C_z3z) (n:Nat):yamy (E_z3z g) g.N yo3y yjQy (yeEy g) n:=by intro ps; unfold yeEy; split; exact .inr fun R K=>(by kernel_rfl); exact .inl fun R K=>rfl
theorem ypyy [Fuel]:yagy (E_z3z I_z3z) NN yo3y:=yaky yjQy (yeEy I_z3z) (by kernel_rfl) ysey (cuts0 (fun _=>rfl) (by kernel_rfl)) (fun ps R K=>by unfold yeEy; split <;> (try unfold z3z_L13) <;> rfl) (yByy I_z3z)
noncomputable def yrny:Code:=sub [1,1,0,1,0,0] yeby
theorem yDny (g:C_z3z) (n:Nat):yamy (E_z3z g) g.N yrny ykNy (ygay g) n:=by intro ps; unfold ygay; split; exact .inr fun R K=>(by kernel_rfl); exact .inl fun R K=>rfl
theorem yBFy [Fuel]:yagy (E_z3z I_z3z) NN yrny:=yaky ykNy (ygay I_z3z) (by kernel_rfl) ysey (cutsL (fun _=>rfl) (.cons yroy (.cons ypyy .nil)) (by kernel_rfl)) (fun ps R K=>by unfold ygay; split <;> (try unfold z3z_L3) <;> rfl) (yDny I_z3z)
theorem yIqy (g:C_z3z):Same (ypUy (@z3z_ g)) (abody (E_z3z g) Tryz.f36 yeby 29 [0,1,2,3,4,5] [.arr 46] g.N):=by intro args; unfold ypUy; split; exact .inr fun R k=>(by kernel_rfl); exact .inl fun R k=>rfl
theorem yJwy [Fuel]:Ok 36 (ypUy (@z3z _)):=yacy std (.cons yxdy .nil) ⟨rfl,rfl,by kernel_rfl,rfl,rfl,rfl⟩ (yIqy I_z3z) (cutsL (fun _=>rfl) (.cons yroy (.cons ypyy (.cons yBFy .nil))) (by kernel_rfl)) Tryz.func36 (by kernel_rfl) (by kernel_rfl)
end Go.Am
