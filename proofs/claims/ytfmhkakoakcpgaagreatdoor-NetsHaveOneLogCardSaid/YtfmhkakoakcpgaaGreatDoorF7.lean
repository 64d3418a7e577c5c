/- The functions of the program as Lean functions, each shown to be what the code computes, part 7. No condition: lemmas for the claim. -/
import Derived.Test.YtfmhkakoakcpgaaGreatDoorF0
import Derived.Test.YtfmhkakoakcpgaaGreatDoorFSh
import Derived.Test.YtfmhkakoakcpgaaGreatDoorF1
import Derived.Test.YtfmhkakoakcpgaaGreatDoorF5
import Derived.Test.YtfmhkakoakcpgaaGreatDoorF6
set_option linter.unusedVariables false
set_option maxRecDepth 100000
namespace Go.Am
open Go Go.Proofs
abbrev T_z3z:Type 1:=List G_Deed→List G_Contact→List (List UInt8)→List Int→List (G_net_own×Bool)→{R:Type}→(List G_Desk→List G_Deed→List G_Contact→List (List UInt8)→List Int→List (G_net_own×Bool)→Option R)→Option R
structure C_z3z where
 N:Nat
 z24z:ywKy
def z3z_L7 (g:C_z3z):Nat→List UInt8→Int→Int→Int→Int→List (G_net_own×Bool)→List (List UInt8)→List G_Desk→G_Desk→List G_Deed→List G_Contact→List (List UInt8)→List Int→{R:Type}→(List UInt8→Int→Int→List (G_net_own×Bool)→List (List UInt8)→List G_Desk→G_Desk→List G_Deed→List G_Contact→List (List UInt8)→List Int→Option R)→Option R
 | 0,_,_,_,_,_,_,_,_,_,_,_,_,_,_,_=>none
 | n + 1,v74,v75,v76,v77,v78,v79,v80,v81,v82,v83,v84,v85,v86,_,e0=>(bif (decide (v78 < v77)) then (inr v83 v78 (at_ v83 v78 fun x88=>(bif (x88.f_Site == v74) then (bif (x88.f_Kind == 2) then z3z_L7 g n v74 v75 v76 v77 (w64 (v78 + 1)) v79 v80 v81 (⟨v82.f_Site,x88.f_Band,v82.f_Contacts⟩:G_Desk) v83 v84 v85 v86 e0 else z3z_L7 g n v74 v75 v76 v77 (w64 (v78 + 1)) v79 v80 v81 v82 v83 v84 v85 v86 e0) else z3z_L7 g n v74 v75 v76 v77 (w64 (v78 + 1)) v79 v80 v81 v82 v83 v84 v85 v86 e0))) else e0 v74 v75 v76 v79 v80 v81 v82 v83 v84 v85 v86)
def z3z_L13 (g:C_z3z):Nat→List UInt8→Int→Int→Int→Int→List (G_net_own×Bool)→List (List UInt8)→List G_Desk→G_Desk→List G_Deed→List G_Contact→List (List UInt8)→List Int→{R:Type}→(Int→Int→List (G_net_own×Bool)→List (List UInt8)→List G_Desk→G_Desk→List G_Deed→List G_Contact→List (List UInt8)→List Int→Option R)→Option R
 | 0,_,_,_,_,_,_,_,_,_,_,_,_,_,_,_=>none
 | n + 1,v100,v101,v102,v103,v104,v105,v106,v107,v108,v109,v110,v111,v112,_,e0=>(bif (decide (v104 < v103)) then (inr v111 v104 (at_ v111 v104 fun x114=>(bif (x114 == v100) then z3z_L13 g n v100 v101 v102 v103 (w64 (v104 + 1)) v105 v106 v107 (⟨v108.f_Site,v108.f_Band,(w64 (v108.f_Contacts + 1))⟩:G_Desk) v109 v110 v111 v112 e0 else z3z_L13 g n v100 v101 v102 v103 (w64 (v104 + 1)) v105 v106 v107 v108 v109 v110 v111 v112 e0))) else e0 v101 v102 v105 v106 v107 v108 v109 v110 v111 v112)
def z3z_L3 (g:C_z3z):Nat→Int→Int→List (G_net_own×Bool)→List (List UInt8)→List G_Desk→List G_Deed→List G_Contact→List (List UInt8)→List Int→{R:Type}→(List (G_net_own×Bool)→List G_Desk→List G_Deed→List G_Contact→List (List UInt8)→List Int→Option R)→Option R
 | 0,_,_,_,_,_,_,_,_,_,_,_=>none
 | n + 1,v12,v13,v14,v15,v16,v17,v18,v19,v20,_,e0=>(bif (decide (v13 < v12)) then (inr v15 v13 (at_ v15 v13 fun x73=>(z3z_L7 g g.N x73 v12 v13 (v17.length:Int) 0 v14 v15 v16 (⟨x73,[],0⟩:G_Desk) v17 v18 v19 v20 (fun e89 e90 e91 e92 e93 e94 e95 e96 e97 e98 e99=>(z3z_L13 g g.N e89 e90 e91 (e98.length:Int) 0 e92 e93 e94 e95 e96 e97 e98 e99 (fun e115 e116 e117 e118 e119 e120 e121 e122 e123 e124=>(bif (decide ((e119.length + [e120].length) * 40≤yady)) then z3z_L3 g n e115 (w64 (e116 + 1)) e117 e118 (e119 ++ [e120]) e121 e122 e123 e124 e0 else none))))))) else e0 v14 v16 v17 v18 v19 v20)
def z3z_ (g:C_z3z) (a1:List G_Deed) (a2:List G_Contact) (a3:List (List UInt8)) (a4:List Int) (a5:List (G_net_own×Bool)) {R:Type} (k0:List G_Desk→List G_Deed→List G_Contact→List (List UInt8)→List Int→List (G_net_own×Bool)→Option R):Option R :=
 (g.z24z a1 a2 a3 a4 a5 (fun r6 r7 r8 r9 r10 r11=>(z3z_L3 g g.N (r6.length:Int) 0 r11 r6 [] r7 r8 r9 r10 (fun e125 e126 e127 e128 e129 e130=>k0 e126 e127 e128 e129 e130 e125))))
noncomputable def I_z3z [Fuel]:C_z3z:=⟨NN,@z24z _⟩
noncomputable def z3z [Fuel]:T_z3z:=@z3z_ I_z3z
def p_z3z (args:List (IV A)):Bool:=match args with | [.box [.arr 41 _,.arr 39 _,.arr 9 _,.arr 3 _,.mp 70 4 _]]=>true | _=>false
def ypEy (g:T_z3z):Spec A:=fun args=>match args with | [.box [.arr 41 a1,.arr 39 a2,.arr 9 a3,.arr 3 a4,.mp 70 4 a5]]=>fun k=>g a1 a2 a3 a4 a5 (fun z0 z1 z2 z3 z4 z5=>k (.arr 53 z0) [.box [.arr 41 z1,.arr 39 z2,.arr 9 z3,.arr 3 z4,.mp 70 4 z5]]) | _=>fun _=>none
def ymhy:SSt:=mkSh 65 29 [(0,.ptr 0 0),(3,.own 53 12),(5,.str),(6,.ptr 17 0),(12,.own 9 11),(13,.int .i64),(14,.int .i64),(23,.own 41 18),(24,.int .i64),(25,.int .i64)] [(0,.box [.own 41 18,.own 39 19,.own 9 20,.own 3 21,.mp 10]),(10,.mp 70 4),(11,.row 9),(12,.row 53),(17,.box [.str,.str,.int .i64]),(18,.row 41),(19,.row 39),(20,.row 9),(21,.row 3)]
def ygKy (g:C_z3z) (n:Nat):LPT A:=fun ps=>match ps with | [.d (.str p1),.d (.int .i64 p2),.d (.int .i64 p3),.d (.int .i64 p4),.d (.int .i64 p5),.mp 70 4 p6,.d (.sl 9 p7),.d (.sl 53 p8),.d (.str p9),.d (.str p10),.d (.int .i64 p11),.d (.sl 41 p12),.d (.sl 39 p13),.d (.sl 9 p14),.d (.sl 3 p15)]=>fun K=>z3z_L7 g n p1 p2 p3 p4 p5 p6 p7 p8 ⟨p9,p10,p11⟩ p12 p13 p14 p15 (fun z0 z1 z2 z3 z4 z5 z6 z7 z8 z9 z10=>K (.exit 2) (mkSt 65 29 [(0,.ptr 0 0),(3,.own 53 12),(5,.d (.str z0)),(6,.ptr 17 0),(12,.own 9 11),(13,.d (.int .i64 z1)),(14,.d (.int .i64 z2))] [(0,some (.box [.own 41 18,.own 39 19,.own 9 20,.own 3 21,.mp 10])),(10,some (.mp 70 4 z3)),(11,some (.row 9 z4)),(12,some (.row 53 z5)),(17,some (.box [.d (.str z6.f_Site),.d (.str z6.f_Band),.d (.int .i64 z6.f_Contacts)])),(18,some (.row 41 z7)),(19,some (.row 39 z8)),(20,some (.row 9 z9)),(21,some (.row 3 z10))])) | _=>fun _=>none
def ykUy:SSt:=mkSh 65 29 [(0,.ptr 0 0),(3,.own 53 12),(5,.str),(6,.ptr 17 0),(12,.own 9 11),(13,.int .i64),(14,.int .i64),(45,.own 9 25),(46,.int .i64),(47,.int .i64)] [(0,.box [.own 41 23,.own 39 24,.own 9 25,.own 3 26,.mp 10]),(10,.mp 70 4),(11,.row 9),(12,.row 53),(17,.box [.str,.str,.int .i64]),(23,.row 41),(24,.row 39),(25,.row 9),(26,.row 3)]
def yfcy (g:C_z3z) (n:Nat):LPT A:=fun ps=>match ps with | [.d (.str p1),.d (.int .i64 p2),.d (.int .i64 p3),.d (.int .i64 p4),.d (.int .i64 p5),.mp 70 4 p6,.d (.sl 9 p7),.d (.sl 53 p8),.d (.str p9),.d (.str p10),.d (.int .i64 p11),.d (.sl 41 p12),.d (.sl 39 p13),.d (.sl 9 p14),.d (.sl 3 p15)]=>fun K=>z3z_L13 g n p1 p2 p3 p4 p5 p6 p7 p8 ⟨p9,p10,p11⟩ p12 p13 p14 p15 (fun z0 z1 z2 z3 z4 z5 z6 z7 z8 z9=>K (.exit 4) (mkSt 65 29 [(0,.ptr 0 0),(3,.own 53 12),(6,.ptr 17 0),(12,.own 9 11),(13,.d (.int .i64 z0)),(14,.d (.int .i64 z1))] [(0,some (.box [.own 41 23,.own 39 24,.own 9 25,.own 3 26,.mp 10])),(10,some (.mp 70 4 z2)),(11,some (.row 9 z3)),(12,some (.row 53 z4)),(17,some (.box [.d (.str z5.f_Site),.d (.str z5.f_Band),.d (.int .i64 z5.f_Contacts)])),(23,some (.row 41 z6)),(24,some (.row 39 z7)),(25,some (.row 9 z8)),(26,some (.row 3 z9))])) | _=>fun _=>none
def ylGy:SSt:=mkSh 65 29 [(0,.ptr 0 0),(3,.own 53 12),(12,.own 9 11),(13,.int .i64),(14,.int .i64)] [(0,.box [.own 41 13,.own 39 14,.own 9 15,.own 3 16,.mp 10]),(10,.mp 70 4),(11,.row 9),(12,.row 53),(13,.row 41),(14,.row 39),(15,.row 9),(16,.row 3)]
def ygRy (g:C_z3z) (n:Nat):LPT A:=fun ps=>match ps with | [.d (.int .i64 p1),.d (.int .i64 p2),.mp 70 4 p3,.d (.sl 9 p4),.d (.sl 53 p5),.d (.sl 41 p6),.d (.sl 39 p7),.d (.sl 9 p8),.d (.sl 3 p9)]=>fun K=>z3z_L3 g n p1 p2 p3 p4 p5 p6 p7 p8 p9 (fun z0 z1 z2 z3 z4 z5=>K (.exit 0) (mkSt 65 29 [(0,.ptr 0 0),(3,.own 53 12)] [(0,some (.box [.own 41 13,.own 39 14,.own 9 15,.own 3 16,.mp 10])),(10,some (.mp 70 4 z0)),(12,some (.row 53 z1)),(13,some (.row 41 z2)),(14,some (.row 39 z3)),(15,some (.row 9 z4)),(16,some (.row 3 z5))])) | _=>fun _=>none
noncomputable def E_z3z (g:C_z3z):Env A:=mkE [(52,ynoy g.z24z)] [(6,[17]),(8,[22]),(12,[6,7,8,9,10,11]),(61,[27]),(62,[28])] [(7,⟨[0,3,5,6,12,13,14,23,24,25],[],[0,10,11,12,17],[(0,0,41,18),(0,1,39,19),(0,2,9,20),(0,3,3,21)],[],[],[]⟩),(13,⟨[0,3,5,6,12,13,14,45,46,47],[],[0,10,11,12,17],[(0,0,41,23),(0,1,39,24),(0,2,9,25),(0,3,3,26)],[],[],[]⟩),(3,⟨[0,3,12,13,14],[(3,53,12)],[0,10,11],[(0,0,41,13),(0,1,39,14),(0,2,9,15),(0,3,3,16)],[],[],[]⟩)] [(7,⟨[0,3,5,6,12,13,14],[],[0,10,11,12,17,18,19,20,21],[],[],[],[]⟩),(13,⟨[0,3,6,12,13,14],[],[0,10,11,12,17,23,24,25,26],[],[],[],[]⟩),(3,⟨[0,3],[],[0,10,12,13,14,15,16],[],[],[],[]⟩)] [(7,yaiy ymhy (ygKy g g.N)),(13,yaiy ykUy (yfcy g g.N)),(3,yaiy ylGy (ygRy g g.N))] [] [] [] [] [0]
theorem yt9y [Fuel]:yamy (E_z3z I_z3z).C:=ct_of (P:=Tryz.prog) (T:=T) (.cons yyTy .nil) (by kernel_rfl)
noncomputable def ysJy:Code:=sub [1,1,0,1,0,0,1,1,0,0,1,1,0,1,0,0] yeHy
theorem yEUy (g:C_z3z) (n:Nat):yaoy (E_z3z g) g.N ysJy ymhy (ygKy g) n:=by intro ps; unfold ygKy; split; exact .inr fun R K=>(by kernel_rfl); exact .inl fun R K=>rfl
theorem ysoy [Fuel]:yahy (E_z3z I_z3z) NN ysJy:=yaky ymhy (ygKy I_z3z) (by kernel_rfl) yt9y (cuts0 (fun _=>rfl) (by kernel_rfl)) (fun ps R K=>by unfold ygKy; split <;> (try unfold z3z_L7) <;> rfl) (yEUy I_z3z)
noncomputable def yray:Code:=sub [1,1,0,1,0,0,1,1,0,0,1,1,1,0,1,0,0] yeHy
theorem yCry (g:C_z3z) (n:Nat):yaoy (E_z3z g) g.N yray ykUy (yfcy g) n:=by intro ps; unfold yfcy; split; exact .inr fun R K=>(by kernel_rfl); exact .inl fun R K=>rfl
theorem yrdy [Fuel]:yahy (E_z3z I_z3z) NN yray:=yaky ykUy (yfcy I_z3z) (by kernel_rfl) yt9y (cuts0 (fun _=>rfl) (by kernel_rfl)) (fun ps R K=>by unfold yfcy; split <;> (try unfold z3z_L13) <;> rfl) (yCry I_z3z)
noncomputable def ysXy:Code:=sub [1,1,0,1,0,0] yeHy
theorem yE0y (g:C_z3z) (n:Nat):yaoy (E_z3z g) g.N ysXy ylGy (ygRy g) n:=by intro ps; unfold ygRy; split; exact .inr fun R K=>(by kernel_rfl); exact .inl fun R K=>rfl
theorem yC2y [Fuel]:yahy (E_z3z I_z3z) NN ysXy:=yaky ylGy (ygRy I_z3z) (by kernel_rfl) yt9y (cutsL (fun _=>rfl) (.cons ysoy (.cons yrdy .nil)) (by kernel_rfl)) (fun ps R K=>by unfold ygRy; split <;> (try unfold z3z_L3) <;> rfl) (yE0y I_z3z)
theorem yJpy (g:C_z3z):Same (ypEy (@z3z_ g)) (abody (E_z3z g) Tryz.f22 yeHy 29 [0,1,2,3,4,5] [.arr 53] g.N):=by intro args; unfold ypEy; split; exact .inr fun R k=>(by kernel_rfl); exact .inl fun R k=>rfl
theorem yJQy [Fuel]:Ok 22 (ypEy (@z3z _)):=yacy std (.cons yyTy .nil) ⟨rfl,rfl,by kernel_rfl,rfl,rfl,rfl⟩ (yJpy I_z3z) (cutsL (fun _=>rfl) (.cons ysoy (.cons yrdy (.cons yC2y .nil))) (by kernel_rfl)) Tryz.func22 (by kernel_rfl) (by kernel_rfl)
abbrev yiXy:Type 1:=List G_Deed→Int→{R:Type}→(List G_Desk→Int→Option R)→Option R
structure C_net_Desks where
 N:Nat
 z53z:yjXy
 z3z:T_z3z
 z51z:yvsy
def yhny (g:C_net_Desks) (a1:List G_Deed) (a2:Int) {R:Type} (k0:List G_Desk→Int→Option R):Option R :=
 (g.z53z a1 a2 (fun r3=>(bif (r3 != 0) then k0 [] r3 else (g.z51z))) (fun r4 r5 r6 r7 r8 r9=>(bif (r9 != 0) then k0 [] r9 else (g.z3z r4 r5 r6 r7 r8 (fun r10 r11 r12 r13 r14 r15=>k0 r10 0)))))
noncomputable def yd2y [Fuel]:C_net_Desks:=⟨NN,@z53z _,@z3z _,@z51z _⟩
noncomputable def net_Desks [Fuel]:yiXy:=@yhny yd2y
def yfUy (g:yiXy):Spec A:=fun args=>match args with | [.d (.sl 41 a1),.d (.int .i64 a2)]=>fun k=>g a1 a2 (fun z0 z1=>k (.tup [.arr 53 z0,.d (.int .i64 z1)]) [.undef,.undef]) | _=>fun _=>none
noncomputable def yJxy:Code:=(Tryz.f7.body).getD .skip
noncomputable def yxpy (g:C_net_Desks):Env A:=mkE [(21,yf8y g.z53z),(22,orS p_z3z (ypEy g.z3z) (ynAy g.z51z))] [(11,[0,1,2,3,4,5]),(18,[6,7,8,9,10,11])] [] [] [] [] [] [] [] []
theorem ytNy (g:C_net_Desks):Same (yfUy (@yhny g)) (abody (yxpy g) Tryz.f7 yJxy 12 [] [.arr 53,.asis] g.N):=by intro args; unfold yfUy; split; exact .inr fun R k=>(by kernel_rfl); exact .inl fun R k=>rfl
theorem ymiy [Fuel]:Ok 7 (yfUy (@net_Desks _)):=yacy std (.cons ymYy (.cons (ok_or p_z3z yJQy yHqy) .nil)) ⟨rfl,rfl,by kernel_rfl,rfl,rfl,rfl⟩ (ytNy yd2y) (cuts0 (fun _=>rfl) (by kernel_rfl)) Tryz.func7 (by kernel_rfl) (by kernel_rfl)
abbrev ywry:Type 1:=G_Stream→List G_Deed→{R:Type}→(List G_Deed→List G_Deed→G_Stream→Option R)→Option R
structure C_z32z where
 N:Nat
 z41z:yfTy
def z32z_L3 (g:C_z32z):Nat→List G_Deed→Int→Int→G_Stream→List G_Deed→List G_Deed→{R:Type}→(G_Stream→List G_Deed→List G_Deed→Option R)→Option R
 | 0,_,_,_,_,_,_,_,_=>none
 | n + 1,v3,v4,v5,v6,v7,v8,_,e0=>(bif (decide (v5 < v4)) then (get_ v3 v5 fun x12=>(g.z41z v6 3 (fun r13 r14=>(bif (r13 == 0) then (bif (decide ((v7.length + [x12].length) * 176≤yady)) then z32z_L3 g n v3 v4 (w64 (v5 + 1)) r14 (v7 ++ [x12]) v8 e0 else none) else (bif (r13 == 1) then (bif (decide ((v8.length + [x12].length) * 176≤yady)) then z32z_L3 g n v3 v4 (w64 (v5 + 1)) r14 v7 (v8 ++ [x12]) e0 else none) else (bif (decide ((v7.length + [x12].length) * 176≤yady)) then (bif (decide ((v8.length + [x12].length) * 176≤yady)) then z32z_L3 g n v3 v4 (w64 (v5 + 1)) r14 (v7 ++ [x12]) (v8 ++ [x12]) e0 else none) else none)))))) else e0 v6 v7 v8)
def z32z_ (g:C_z32z) (a1:G_Stream) (a2:List G_Deed) {R:Type} (k0:List G_Deed→List G_Deed→G_Stream→Option R):Option R :=
 (z32z_L3 g g.N a2 (a2.length:Int) 0 a1 [] [] (fun e15 e16 e17=>k0 e16 e17 e15))
noncomputable def ygTy [Fuel]:C_z32z:=⟨NN,@z41z _⟩
noncomputable def z32z [Fuel]:ywry:=@z32z_ ygTy
def ynVy (g:ywry):Spec A:=fun args=>match args with | [.box [.d (.sl 3 a1),.d (.int .i64 a2)],.d (.sl 41 a3)]=>fun k=>g ⟨a1,a2⟩ a3 (fun z0 z1 z2=>k (.tup [.arr 41 z0,.arr 41 z1]) [.box [.d (.sl 3 z2.f_L),.d (.int .i64 z2.f_at)],.undef]) | _=>fun _=>none
def ykoy:SSt:=mkSh 41 12 [(0,.ptr 0 0),(6,.own 41 1),(7,.own 41 2),(10,.sl 41),(11,.int .i64),(12,.int .i64)] [(0,.box [.sl 3,.int .i64]),(1,.row 41),(2,.row 41)]
def yfSy (g:C_z32z) (n:Nat):LPT A:=fun ps=>match ps with | [.d (.sl 41 p1),.d (.int .i64 p2),.d (.int .i64 p3),.d (.sl 3 p4),.d (.int .i64 p5),.d (.sl 41 p6),.d (.sl 41 p7)]=>fun K=>z32z_L3 g n p1 p2 p3 ⟨p4,p5⟩ p6 p7 (fun z0 z1 z2=>K (.exit 0) (mkSt 41 12 [(0,.ptr 0 0),(6,.own 41 1),(7,.own 41 2)] [(0,some (.box [.d (.sl 3 z0.f_L),.d (.int .i64 z0.f_at)])),(1,some (.row 41 z1)),(2,some (.row 41 z2))])) | _=>fun _=>none
noncomputable def yB6y:Code:=(Tryz.f8.body).getD .skip
noncomputable def ypXy (g:C_z32z):Env A:=mkE [(20,yc9y g.z41z)] [(9,[3]),(20,[8]),(21,[10]),(24,[9]),(25,[11]),(30,[4]),(31,[5]),(36,[6]),(37,[7])] [(3,⟨[0,6,7,10,11,12],[(6,41,1),(7,41,2)],[0],[],[],[],[]⟩)] [(3,⟨[0,6,7],[],[0,1,2],[],[],[],[]⟩)] [(3,yaiy ykoy (yfSy g g.N))] [] [] [] [] [0]
theorem yGdy [Fuel]:yamy (ypXy ygTy).C:=ct_of (P:=Tryz.prog) (T:=T) (.cons ydMy .nil) (by kernel_rfl)
noncomputable def ypjy:Code:=sub [1,1,0,1,0,0] yB6y
theorem yCzy (g:C_z32z) (n:Nat):yaoy (ypXy g) g.N ypjy ykoy (yfSy g) n:=by intro ps; unfold yfSy; split; exact .inr fun R K=>(by kernel_rfl); exact .inl fun R K=>rfl
theorem yABy [Fuel]:yahy (ypXy ygTy) NN ypjy:=yaky ykoy (yfSy ygTy) (by kernel_rfl) yGdy (cuts0 (fun _=>rfl) (by kernel_rfl)) (fun ps R K=>by unfold yfSy; split <;> (try unfold z32z_L3) <;> rfl) (yCzy ygTy)
theorem yI1y (g:C_z32z):Same (ynVy (@z32z_ g)) (abody (ypXy g) Tryz.f8 yB6y 12 [0] [.arr 41,.arr 41] g.N):=by intro args; unfold ynVy; split; exact .inr fun R k=>(by kernel_rfl); exact .inl fun R k=>rfl
theorem yymy [Fuel]:Ok 8 (ynVy (@z32z _)):=yacy std (.cons ydMy .nil) ⟨rfl,rfl,by kernel_rfl,rfl,rfl,rfl⟩ (yI1y ygTy) (cutsL (fun _=>rfl) (.cons yABy .nil) (by kernel_rfl)) Tryz.func8 (by kernel_rfl) (by kernel_rfl)
abbrev yvdy:Type 1:=Int→{R:Type}→(List G_Deed→Option R)→Option R
def z71z [Fuel]:yvdy:=@ydpy G_Deed 176
def yjMy (g:yvdy):Spec A:=fun args=>match args with | [.d .nsl,.d (.int .i64 x1)]=>fun k=>g x1 (fun z=>k (.arr 41 z) [.undef,.undef]) | _=>fun _=>none
theorem yzxy [Fuel] (xs:Int) (R:Type) (k:IV A→List (IV A)→Option R):yjMy (@z71z _) [.d .nsl,.d (.int .i64 xs)] k = ydpy (α:=A 41) 176 xs (fun z=>k (.arr 41 z) [.undef,.undef]):=by kernel_rfl
theorem yyKy [Fuel] (args:List (IV A)) (R:Type) (k:IV A→List (IV A)→Option R) (h:∀ xs:Int,args ≠ [.d .nsl,.d (.int .i64 xs)]):yjMy (@z71z _) args k = none:=by unfold yjMy; split; exact absurd rfl (h _); rfl
theorem yyxy [Fuel]:Ok 54 (yjMy (@z71z _)):=⟨yzjy (yqhy rfl (tyOk Tryz.prog) (e:=41) (size:=15) (bytes:=176) (ty:=41) (by kernel_rfl) (fun w=>yCAy Tryz.grow54 w) (fun n w hn hb hm=>yCRy Tryz.grow54 Tryz.ti41 Tryz.zv41 (by kernel_rfl) (by kernel_rfl) 15 176 (by kernel_rfl) (by kernel_rfl) (by decide) (by kernel_rfl) n w hn hb hm)) yzxy yyKy,yzCy yzxy yyKy,yaSy (fn:=Tryz.f54) Tryz.func54 (by kernel_rfl) (by kernel_rfl)⟩
abbrev yv6y:Type 1:=List (List G_Deed)→{R:Type}→(List G_Deed→Option R)→Option R
structure C_z11z where
 N:Nat
 z71z:yvdy
def z11z_L3 (g:C_z11z):Nat→List (List G_Deed)→Int→List (List G_Deed)→Int→Int→{R:Type}→(List (List G_Deed)→Int→Option R)→Option R
 | 0,_,_,_,_,_,_,_=>none
 | n + 1,v2,v3,v4,v5,v6,_,e0=>(bif (decide (v6 < v5)) then (get_ v4 v6 fun x8=>(bif (decide ((w64 (v3 + (x8.length:Int))) < 0)) then none else z11z_L3 g n v2 (w64 (v3 + (x8.length:Int))) v4 v5 (w64 (v6 + 1)) e0)) else e0 v2 v3)
def z11z_L11 (g:C_z11z):Nat→List (List G_Deed)→Int→Int→List G_Deed→{R:Type}→(List G_Deed→Option R)→Option R
 | 0,_,_,_,_,_,_=>none
 | n + 1,v12,v13,v14,v15,_,e0=>(bif (decide (v14 < v13)) then (get_ v12 v14 fun x17=>(bif (decide ((v15.length + x17.length) * 176≤yady)) then z11z_L11 g n v12 v13 (w64 (v14 + 1)) (v15 ++ x17) e0 else none)) else e0 v15)
def z11z_ (g:C_z11z) (a1:List (List G_Deed)) {R:Type} (k0:List G_Deed→Option R):Option R :=
 (z11z_L3 g g.N a1 0 a1 (a1.length:Int) 0 (fun e9 e10=>(g.z71z e10 (fun r11=>(z11z_L11 g g.N e9 (e9.length:Int) 0 r11 (fun e18=>k0 e18))))))
noncomputable def yd8y [Fuel]:C_z11z:=⟨NN,@z71z _⟩
noncomputable def z11z [Fuel]:yv6y:=@z11z_ yd8y
def ynqy (g:yv6y):Spec A:=fun args=>match args with | [.d (.sl 26 a1)]=>fun k=>g a1 (fun z0=>k (.arr 41 z0) [.undef]) | _=>fun _=>none
def ylfy:SSt:=mkSh 36 3 [(0,.sl 26),(3,.int .i64),(9,.sl 26),(10,.int .i64),(11,.int .i64)] []
def yfAy (g:C_z11z) (n:Nat):LPT A:=fun ps=>match ps with | [.d (.sl 26 p1),.d (.int .i64 p2),.d (.sl 26 p3),.d (.int .i64 p4),.d (.int .i64 p5)]=>fun K=>z11z_L3 g n p1 p2 p3 p4 p5 (fun z0 z1=>K (.exit 0) (mkSt 36 3 [(0,.d (.sl 26 z0)),(3,.d (.int .i64 z1))] [])) | _=>fun _=>none
def yiOy:SSt:=mkSh 36 3 [(6,.own 41 1),(25,.sl 26),(26,.int .i64),(27,.int .i64)] [(1,.row 41)]
def yd5y (g:C_z11z) (n:Nat):LPT A:=fun ps=>match ps with | [.d (.sl 26 p1),.d (.int .i64 p2),.d (.int .i64 p3),.d (.sl 41 p4)]=>fun K=>z11z_L11 g n p1 p2 p3 p4 (fun z0=>K (.exit 2) (mkSt 36 3 [(6,.own 41 1)] [(1,some (.row 41 z0))])) | _=>fun _=>none
noncomputable def yrFy:Code:=(Tryz.f24.body).getD .skip
noncomputable def yj6y (g:C_z11z):Env A:=mkE [(54,yjMy g.z71z)] [(24,[0]),(33,[2])] [(3,⟨[0,3,9,10,11],[],[],[],[],[],[]⟩),(11,⟨[6,25,26,27],[(6,41,1)],[],[],[],[],[]⟩)] [(3,⟨[0,3],[],[],[],[],[],[]⟩),(11,⟨[6],[],[1],[],[],[],[]⟩)] [(3,yaiy ylfy (yfAy g g.N)),(11,yaiy yiOy (yd5y g g.N))] [] [] [] [(54,0)] []
theorem yzfy [Fuel]:yamy (yj6y yd8y).C:=ct_of (P:=Tryz.prog) (T:=T) (.cons yyxy .nil) (by kernel_rfl)
noncomputable def yrfy:Code:=sub [1,1,0,1,0,0] yrFy
theorem yCJy (g:C_z11z) (n:Nat):yaoy (yj6y g) g.N yrfy ylfy (yfAy g) n:=by intro ps; unfold yfAy; split; exact .inr fun R K=>(by kernel_rfl); exact .inl fun R K=>rfl
theorem yzSy [Fuel]:yahy (yj6y yd8y) NN yrfy:=yaky ylfy (yfAy yd8y) (by kernel_rfl) yzfy (cuts0 (fun _=>rfl) (by kernel_rfl)) (fun ps R K=>by unfold yfAy; split <;> (try unfold z11z_L3) <;> rfl) (yCJy yd8y)
noncomputable def yory:Code:=sub [1,1,1,1,0,1,0,0] yrFy
theorem yA3y (g:C_z11z) (n:Nat):yaoy (yj6y g) g.N yory yiOy (yd5y g) n:=by intro ps; unfold yd5y; split; exact .inr fun R K=>(by kernel_rfl); exact .inl fun R K=>rfl
theorem ywUy [Fuel]:yahy (yj6y yd8y) NN yory:=yaky yiOy (yd5y yd8y) (by kernel_rfl) yzfy (cuts0 (fun _=>rfl) (by kernel_rfl)) (fun ps R K=>by unfold yd5y; split <;> (try unfold z11z_L11) <;> rfl) (yA3y yd8y)
theorem yIly (g:C_z11z):Same (ynqy (@z11z_ g)) (abody (yj6y g) Tryz.f24 yrFy 3 [] [.arr 41] g.N):=by intro args; unfold ynqy; split; exact .inr fun R k=>(by kernel_rfl); exact .inl fun R k=>rfl
theorem yySy [Fuel]:Ok 24 (ynqy (@z11z _)):=yacy std (.cons yyxy .nil) ⟨rfl,rfl,by kernel_rfl,rfl,rfl,rfl⟩ (yIly yd8y) (cutsL (fun _=>rfl) (.cons yzSy (.cons ywUy .nil)) (by kernel_rfl)) Tryz.func24 (by kernel_rfl) (by kernel_rfl)
abbrev yvKy:Type 1:=List G_Deed→{R:Type}→(List G_Deed→Option R)→Option R
noncomputable def z40z [Fuel]:yvKy:=@ybJy G_Deed (@z43z _)
def yjCy (g:yvKy):Spec A:=fun args=>match args with | [.arr 41 a1,.fn 26 []]=>fun k=>g a1 (fun z=>k (.tup []) [.arr 41 z,.fn 26 []]) | _=>fun _=>none
theorem yyjy [Fuel] (xs:List (A 41)) (R:Type) (k:IV A→List (IV A)→Option R):yjCy (@z40z _) [.arr 41 xs,.fn 26 []] k = ybJy (α:=A 41) (@z43z _) xs (fun z=>k (.tup []) [.arr 41 z,.fn 26 []]):=by kernel_rfl
theorem yyXy [Fuel] (args:List (IV A)) (R:Type) (k:IV A→List (IV A)→Option R) (h:∀ xs:List (A 41),args ≠ [.arr 41 xs,.fn 26 []]):yjCy (@z40z _) args k = none:=by unfold yjCy; split; exact absurd rfl (h _); rfl
theorem yGWy [Fuel] (x y:A 41) (R:Type) (k:Int→Option R):yjhy T (yeCy (@z43z _)) 41 x y k = @z43z _ x y R k:=by kernel_rfl
theorem yHUy (x:G_Deed):(ym6y x).all scal = true:=rfl
theorem yyUy [Fuel]:Ok 25 (yjCy (@z40z _)):=⟨yguy (tyOk Tryz.prog) (e:=41) Tryz.sortf25 Tryz.isAgg41 Tryz.sizeOf41 (fun x d hd=>List.all_eq_true.1 (yHUy x) d hd) yGWy ywey.fs ywey.en yyjy yyXy,yk8y (e:=41) yyjy yyXy,yaSy (fn:=Tryz.f25) Tryz.func25 (by kernel_rfl) (by kernel_rfl)⟩
abbrev yiNy:Type 1:=List G_Deed→List G_Deed→{R:Type}→(List G_Deed→Int→Option R)→Option R
structure C_net_Merge where
 N:Nat
 z13z:ylWy
 z11z:yv6y
 z40z:yvKy
def ybHy (g:C_net_Merge):Nat→List G_Deed→List G_Deed→Int→Int→List (List G_Deed)→{R:Type}→(List G_Deed→List G_Deed→Int→Option R)→(List G_Deed→List G_Deed→Option R)→Option R
 | 0,_,_,_,_,_,_,_,_=>none
 | n + 1,v3,v4,v5,v6,v7,_,e0,e1=>(bif (decide (v6 < v5)) then (inr v7 v6 (at_ v7 v6 fun x10=>(g.z13z x10 (fun r11=>(bif (r11 != 0) then e0 v3 v4 r11 else ybHy g n v3 v4 v5 (w64 (v6 + 1)) v7 e0 e1))))) else e1 v3 v4)
def ybwy (g:C_net_Merge):Nat→Int→Int→List (G_net_own×G_Deed)→List G_Deed→List G_Deed→{R:Type}→(Int→List G_Deed→Option R)→(List G_Deed→Option R)→Option R
 | 0,_,_,_,_,_,_,_,_=>none
 | n + 1,v18,v19,v20,v21,v22,_,e0,e1=>(bif (decide (v19 < v18)) then (inr v21 v19 (at_ v21 v19 fun x24=>(bif (!(yany (⟨x24.f_Site,x24.f_No⟩:G_net_own) v20).isSome) then (bif (decide ((v22.length + [x24].length) * 176≤yady)) then ybwy g n v18 (w64 (v19 + 1)) (ybsy (⟨x24.f_Site,x24.f_No⟩:G_net_own) x24 v20) v21 (v22 ++ [x24]) e0 e1 else none) else (bif (!(ya0y (⟨((yany (⟨x24.f_Site,x24.f_No⟩:G_net_own) v20).getD (⟨[],0,0,0,(⟨0,0,[],[],0,0,[],[]⟩:G_Contact),[],[],0⟩:G_Deed)).f_Site,((yany (⟨x24.f_Site,x24.f_No⟩:G_net_own) v20).getD (⟨[],0,0,0,(⟨0,0,[],[],0,0,[],[]⟩:G_Contact),[],[],0⟩:G_Deed)).f_No,((yany (⟨x24.f_Site,x24.f_No⟩:G_net_own) v20).getD (⟨[],0,0,0,(⟨0,0,[],[],0,0,[],[]⟩:G_Contact),[],[],0⟩:G_Deed)).f_At,((yany (⟨x24.f_Site,x24.f_No⟩:G_net_own) v20).getD (⟨[],0,0,0,(⟨0,0,[],[],0,0,[],[]⟩:G_Contact),[],[],0⟩:G_Deed)).f_Kind,(⟨((yany (⟨x24.f_Site,x24.f_No⟩:G_net_own) v20).getD (⟨[],0,0,0,(⟨0,0,[],[],0,0,[],[]⟩:G_Contact),[],[],0⟩:G_Deed)).f_Contact.f_At,((yany (⟨x24.f_Site,x24.f_No⟩:G_net_own) v20).getD (⟨[],0,0,0,(⟨0,0,[],[],0,0,[],[]⟩:G_Contact),[],[],0⟩:G_Deed)).f_Contact.f_Mode,((yany (⟨x24.f_Site,x24.f_No⟩:G_net_own) v20).getD (⟨[],0,0,0,(⟨0,0,[],[],0,0,[],[]⟩:G_Contact),[],[],0⟩:G_Deed)).f_Contact.f_Band,((yany (⟨x24.f_Site,x24.f_No⟩:G_net_own) v20).getD (⟨[],0,0,0,(⟨0,0,[],[],0,0,[],[]⟩:G_Contact),[],[],0⟩:G_Deed)).f_Contact.f_Call,((yany (⟨x24.f_Site,x24.f_No⟩:G_net_own) v20).getD (⟨[],0,0,0,(⟨0,0,[],[],0,0,[],[]⟩:G_Contact),[],[],0⟩:G_Deed)).f_Contact.f_Sent,((yany (⟨x24.f_Site,x24.f_No⟩:G_net_own) v20).getD (⟨[],0,0,0,(⟨0,0,[],[],0,0,[],[]⟩:G_Contact),[],[],0⟩:G_Deed)).f_Contact.f_Heard,((yany (⟨x24.f_Site,x24.f_No⟩:G_net_own) v20).getD (⟨[],0,0,0,(⟨0,0,[],[],0,0,[],[]⟩:G_Contact),[],[],0⟩:G_Deed)).f_Contact.f_Gave,((yany (⟨x24.f_Site,x24.f_No⟩:G_net_own) v20).getD (⟨[],0,0,0,(⟨0,0,[],[],0,0,[],[]⟩:G_Contact),[],[],0⟩:G_Deed)).f_Contact.f_Got⟩:G_Contact),((yany (⟨x24.f_Site,x24.f_No⟩:G_net_own) v20).getD (⟨[],0,0,0,(⟨0,0,[],[],0,0,[],[]⟩:G_Contact),[],[],0⟩:G_Deed)).f_Band,((yany (⟨x24.f_Site,x24.f_No⟩:G_net_own) v20).getD (⟨[],0,0,0,(⟨0,0,[],[],0,0,[],[]⟩:G_Contact),[],[],0⟩:G_Deed)).f_Of,((yany (⟨x24.f_Site,x24.f_No⟩:G_net_own) v20).getD (⟨[],0,0,0,(⟨0,0,[],[],0,0,[],[]⟩:G_Contact),[],[],0⟩:G_Deed)).f_Other⟩:G_Deed) x24)) then e0 13 v22 else ybwy g n v18 (w64 (v19 + 1)) v20 v21 v22 e0 e1)))) else e1 v22)
def ypGy (g:C_net_Merge) (a1 a2:List G_Deed) {R:Type} (k0:List G_Deed→Int→Option R):Option R :=
 (ybHy g g.N a1 a2 ([a1,a2].length:Int) 0 [a1,a2] (fun e12 e13 e14=>k0 [] e14) (fun e15 e16=>(g.z11z [e15,e16] (fun r17=>(ybwy g g.N (r17.length:Int) 0 [] r17 [] (fun e25 e26=>k0 [] e25) (fun e27=>(bif (decide ((e27.length:Int) > 2000)) then k0 [] 2 else (g.z40z e27 (fun r28=>k0 r28 0)))))))))
noncomputable def yaTy [Fuel]:C_net_Merge:=⟨NN,@z13z _,@z11z _,@z40z _⟩
noncomputable def net_Merge [Fuel]:yiNy:=@ypGy yaTy
def yfyy (g:yiNy):Spec A:=fun args=>match args with | [.d (.sl 41 a1),.d (.sl 41 a2)]=>fun k=>g a1 a2 (fun z0 z1=>k (.tup [.arr 41 z0,.d (.int .i64 z1)]) [.undef,.undef]) | _=>fun _=>none
def ye6y:SSt:=mkSh 72 10 [(0,.sl 41),(1,.sl 41),(18,.own 26 0),(19,.int .i64),(20,.int .i64)] [(0,.row 26)]
def ycry (g:C_net_Merge) (n:Nat):LPT A:=fun ps=>match ps with | [.d (.sl 41 p1),.d (.sl 41 p2),.d (.int .i64 p3),.d (.int .i64 p4),.d (.sl 26 p5)]=>fun K=>ybHy g n p1 p2 p3 p4 p5 (fun z0 z1 z2=>K .ret (mkSt 72 10 [(0,.d (.sl 41 z0)),(1,.d (.sl 41 z1)),(4,.d .nsl),(5,.d (.int .i64 z2))] [])) (fun z0 z1=>K (.exit 0) (mkSt 72 10 [(0,.d (.sl 41 z0)),(1,.d (.sl 41 z1))] [])) | _=>fun _=>none
def yeyy:SSt:=mkSh 72 10 [(9,.mp 1),(10,.own 41 4),(34,.own 41 3),(35,.int .i64),(36,.int .i64)] [(1,.mp 70 41),(3,.row 41),(4,.row 41)]
def ychy (g:C_net_Merge) (n:Nat):LPT A:=fun ps=>match ps with | [.d (.int .i64 p1),.d (.int .i64 p2),.mp 70 41 p3,.d (.sl 41 p4),.d (.sl 41 p5)]=>fun K=>ybwy g n p1 p2 p3 p4 p5 (fun z0 z1=>K .ret (mkSt 72 10 [(4,.d .nsl),(5,.d (.int .i64 z0)),(10,.own 41 4)] [(4,some (.row 41 z1))])) (fun z0=>K (.exit 2) (mkSt 72 10 [(10,.own 41 4)] [(4,some (.row 41 z0))])) | _=>fun _=>none
noncomputable def yuZy:Code:=(Tryz.f9.body).getD .skip
noncomputable def ydfy (g:C_net_Merge):Env A:=mkE [(23,yhCy g.z13z),(24,ynqy g.z11z),(25,yjCy g.z40z)] [(12,[5]),(13,[6]),(14,[7]),(18,[0]),(30,[1]),(33,[2]),(34,[3]),(59,[8]),(60,[9])] [(2,⟨[0,1,18,19,20],[],[0],[],[],[],[]⟩),(11,⟨[9,10,34,35,36],[(10,41,4)],[1,3],[],[],[],[]⟩)] [(2,⟨[0,1,4,5],[],[],[],[],[],[]⟩),(11,⟨[4,5,10],[],[4],[],[],[],[]⟩)] [(2,yaiy ye6y (ycry g g.N)),(11,yaiy yeyy (ychy g g.N))] [] [] [] [(25,0)] []
theorem ymoy [Fuel]:yamy (ydfy yaTy).C:=ct_of (P:=Tryz.prog) (T:=T) (.cons yjEy (.cons yySy (.cons yyUy .nil))) (by kernel_rfl)
noncomputable def yiDy:Code:=sub [1,0,1,0,0] yuZy
theorem yrvy (g:C_net_Merge) (n:Nat):yaoy (ydfy g) g.N yiDy ye6y (ycry g) n:=by intro ps; unfold ycry; split; exact .inr fun R K=>(by kernel_rfl); exact .inl fun R K=>rfl
theorem yrcy [Fuel]:yahy (ydfy yaTy) NN yiDy:=yaky ye6y (ycry yaTy) (by kernel_rfl) ymoy (cuts0 (fun _=>rfl) (by kernel_rfl)) (fun ps R K=>by unfold ycry; split <;> (try unfold ybHy) <;> rfl) (yrvy yaTy)
noncomputable def yh5y:Code:=sub [1,1,1,1,0,1,0,0] yuZy
theorem yqdy (g:C_net_Merge) (n:Nat):yaoy (ydfy g) g.N yh5y yeyy (ychy g) n:=by intro ps; unfold ychy; split; exact .inr fun R K=>(by kernel_rfl); exact .inl fun R K=>rfl
theorem yo6y [Fuel]:yahy (ydfy yaTy) NN yh5y:=yaky yeyy (ychy yaTy) (by kernel_rfl) ymoy (cuts0 (fun _=>rfl) (by kernel_rfl)) (fun ps R K=>by unfold ychy; split <;> (try unfold ybwy) <;> rfl) (yqdy yaTy)
theorem yvEy (g:C_net_Merge):Same (yfyy (@ypGy g)) (abody (ydfy g) Tryz.f9 yuZy 10 [] [.arr 41,.asis] g.N):=by intro args; unfold yfyy; split; exact .inr fun R k=>(by kernel_rfl); exact .inl fun R k=>rfl
theorem yl7y [Fuel]:Ok 9 (yfyy (@net_Merge _)):=yacy std (.cons yjEy (.cons yySy (.cons yyUy .nil))) ⟨rfl,rfl,by kernel_rfl,rfl,rfl,rfl⟩ (yvEy yaTy) (cutsL (fun _=>rfl) (.cons yrcy (.cons yo6y .nil)) (by kernel_rfl)) Tryz.func9 (by kernel_rfl) (by kernel_rfl)
abbrev yuGy:Type 1:=List G_Contact→List G_Contact→{R:Type}→(List G_Contact→Option R)→Option R
def z37z_L3 (g:Nat):Nat→List G_Contact→List G_Contact→Int→Int→List (G_Contact×Bool)→{R:Type}→(List G_Contact→List (G_Contact×Bool)→Option R)→Option R
 | 0,_,_,_,_,_,_,_=>none
 | n + 1,v3,v4,v5,v6,v7,_,e0=>(bif (decide (v6 < v5)) then (get_ v4 v6 fun x9=>z37z_L3 g n v3 v4 v5 (w64 (v6 + 1)) (ybKy x9 true v7) e0) else e0 v3 v7)
def z37z_L9 (g:Nat):Nat→List G_Contact→Int→Int→List (G_Contact×Bool)→List G_Contact→{R:Type}→(List G_Contact→Option R)→Option R
 | 0,_,_,_,_,_,_,_=>none
 | n + 1,v12,v13,v14,v15,v16,_,e0=>(bif (decide (v14 < v13)) then (get_ v12 v14 fun x18=>(bif (!((ybey x18 v15).getD false)) then (bif (decide ((v16.length + [x18].length) * 96≤yady)) then z37z_L9 g n v12 v13 (w64 (v14 + 1)) v15 (v16 ++ [x18]) e0 else none) else z37z_L9 g n v12 v13 (w64 (v14 + 1)) v15 v16 e0)) else e0 v16)
def z37z_ (g:Nat) (a1 a2:List G_Contact) {R:Type} (k0:List G_Contact→Option R):Option R :=
 (z37z_L3 g g a1 a2 (a2.length:Int) 0 [] (fun e10 e11=>(z37z_L9 g g e10 (e10.length:Int) 0 e11 [] (fun e19=>k0 e19))))
noncomputable def z37z [Fuel]:yuGy:=@z37z_ NN
def ym2y (g:yuGy):Spec A:=fun args=>match args with | [.d (.sl 39 a1),.d (.sl 39 a2)]=>fun k=>g a1 a2 (fun z0=>k (.arr 39 z0) [.undef,.undef]) | _=>fun _=>none
def yk3y:SSt:=mkSh 37 6 [(0,.sl 39),(5,.mp 0),(12,.sl 39),(13,.int .i64),(14,.int .i64)] [(0,.mp 39 4)]
def yfby (g:Nat) (n:Nat):LPT A:=fun ps=>match ps with | [.d (.sl 39 p1),.d (.sl 39 p2),.d (.int .i64 p3),.d (.int .i64 p4),.mp 39 4 p5]=>fun K=>z37z_L3 g n p1 p2 p3 p4 p5 (fun z0 z1=>K (.exit 0) (mkSt 37 6 [(0,.d (.sl 39 z0)),(5,.mp 0)] [(0,some (.mp 39 4 z1))])) | _=>fun _=>none
def ykJy:SSt:=mkSh 37 6 [(5,.mp 0),(8,.own 39 2),(21,.sl 39),(22,.int .i64),(23,.int .i64)] [(0,.mp 39 4),(2,.row 39)]
def yeUy (g:Nat) (n:Nat):LPT A:=fun ps=>match ps with | [.d (.sl 39 p1),.d (.int .i64 p2),.d (.int .i64 p3),.mp 39 4 p4,.d (.sl 39 p5)]=>fun K=>z37z_L9 g n p1 p2 p3 p4 p5 (fun z0=>K (.exit 2) (mkSt 37 6 [(8,.own 39 2)] [(2,some (.row 39 z0))])) | _=>fun _=>none
noncomputable def yrIy:Code:=(Tryz.f30.body).getD .skip
noncomputable def yjJy (g:Nat):Env A:=mkE [] [(7,[1]),(10,[3]),(11,[0]),(33,[4]),(34,[5])] [(3,⟨[0,5,12,13,14],[],[0],[],[],[],[]⟩),(9,⟨[5,8,21,22,23],[(8,39,2)],[0],[],[],[],[]⟩)] [(3,⟨[0,5],[],[0],[],[],[],[]⟩),(9,⟨[8],[],[2],[],[],[],[]⟩)] [(3,yaiy yk3y (yfby g g)),(9,yaiy ykJy (yeUy g g))] [] [] [] [] []
theorem yydy [Fuel]:yamy (yjJy NN).C:=ct_of (P:=Tryz.prog) (T:=T) .nil (by kernel_rfl)
noncomputable def ypHy:Code:=sub [1,1,0,1,0,0] yrIy
theorem yDwy (g:Nat) (n:Nat):yaoy (yjJy g) g ypHy yk3y (yfby g) n:=by intro ps; unfold yfby; split; exact .inr fun R K=>(by kernel_rfl); exact .inl fun R K=>rfl
theorem yzQy [Fuel]:yahy (yjJy NN) NN ypHy:=yaky yk3y (yfby NN) (by kernel_rfl) yydy (cuts0 (fun _=>rfl) (by kernel_rfl)) (fun ps R K=>by unfold yfby; split <;> (try unfold z37z_L3) <;> rfl) (yDwy NN)
noncomputable def yqqy:Code:=sub [1,1,1,1,0,1,0,0] yrIy
theorem yDBy (g:Nat) (n:Nat):yaoy (yjJy g) g yqqy ykJy (yeUy g) n:=by intro ps; unfold yeUy; split; exact .inr fun R K=>(by kernel_rfl); exact .inl fun R K=>rfl
theorem yz1y [Fuel]:yahy (yjJy NN) NN yqqy:=yaky ykJy (yeUy NN) (by kernel_rfl) yydy (cuts0 (fun _=>rfl) (by kernel_rfl)) (fun ps R K=>by unfold yeUy; split <;> (try unfold z37z_L9) <;> rfl) (yDBy NN)
theorem yHIy (g:Nat):Same (ym2y (@z37z_ g)) (abody (yjJy g) Tryz.f30 yrIy 6 [] [.arr 39] g):=by intro args; unfold ym2y; split; exact .inr fun R k=>(by kernel_rfl); exact .inl fun R k=>rfl
theorem yzEy [Fuel]:Ok 30 (ym2y (@z37z _)):=yacy std .nil ⟨rfl,rfl,by kernel_rfl,rfl,rfl,rfl⟩ (yHIy NN) (cutsL (fun _=>rfl) (.cons yzQy (.cons yz1y .nil)) (by kernel_rfl)) Tryz.func30 (by kernel_rfl) (by kernel_rfl)
end Go.Am
