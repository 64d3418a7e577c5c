/- The functions of the program as Lean functions, each shown to be what the code computes, part 11. No condition: lemmas for the claim. -/
import Derived.Test.YtmhbhdhddlbdlaaGreatDoorF0
import Derived.Test.YtmhbhdhddlbdlaaGreatDoorFSh
import Derived.Test.YtmhbhdhddlbdlaaGreatDoorF1
import Derived.Test.YtmhbhdhddlbdlaaGreatDoorF4
import Derived.Test.YtmhbhdhddlbdlaaGreatDoorF6
import Derived.Test.YtmhbhdhddlbdlaaGreatDoorF7
import Derived.Test.YtmhbhdhddlbdlaaGreatDoorF8
import Derived.Test.YtmhbhdhddlbdlaaGreatDoorF9
import Derived.Test.YtmhbhdhddlbdlaaGreatDoorF10
set_option linter.unusedVariables false
set_option maxRecDepth 100000
namespace Go.Am
open Go Go.Proofs
abbrev T_z8z:Type 1:=List G_Deed→List G_Contact→List (List UInt8)→List Int→List (G_net_own×Bool)→{R:Type}→(List (Int×Int)→List G_Deed→List G_Contact→List (List UInt8)→List Int→List (G_net_own×Bool)→Option R)→Option R
noncomputable def z8z_L3 (g:Nat):Nat→List (G_net_own×Bool)→List (G_net_own×Bool)→List (Int×Int)→List G_Deed→List G_Contact→List (List UInt8)→List Int→{R:Type}→(List (G_net_own×Bool)→List (Int×Int)→List G_Deed→List G_Contact→List (List UInt8)→List Int→Option R)→Option R
 | 0,_,_,_,_,_,_,_,_,_=>none
 | n + 1,m11,l12,v6,v7,v8,v9,v10,_,e0=>(yd3y l12 (e0 m11 v6 v7 v8 v9 v10) fun x15 l16=>z8z_L3 g n m11 l16 (ydLy x15.1.f_no (w64 (((ycly x15.1.f_no v6).getD 0) + 1)) v6) v7 v8 v9 v10 e0)
noncomputable def ykzy (g:Nat) (a1:List G_Deed) (a2:List G_Contact) (a3:List (List UInt8)) (a4:List Int) (a5:List (G_net_own×Bool)) {R:Type} (k0:List (Int×Int)→List G_Deed→List G_Contact→List (List UInt8)→List Int→List (G_net_own×Bool)→Option R):Option R :=
 (z8z_L3 g g a5 a5 [] a1 a2 a3 a4 (fun e17 e18 e19 e20 e21 e22=>k0 e18 e19 e20 e21 e22 e17))
def yqgy (p:IV A×List (IV A)):Option ((List (Int×Int))×(List G_Deed)×(List G_Contact)×(List (List UInt8))×(List Int)×(List (G_net_own×Bool))):=match p with | (.mp 3 3 b1,[.box [.arr 51 b2,.arr 49 b3,.arr 9 b4,.arr 3 b5,.mp 107 4 b6]])=>some (b1,b2,b3,b4,b5,b6) | _=>none
def ygGy (q:(List (Int×Int))×(List G_Deed)×(List G_Contact)×(List (List UInt8))×(List Int)×(List (G_net_own×Bool))):IV A×List (IV A):=(.mp 3 3 q.1,[.box [.arr 51 q.2.1,.arr 49 q.2.2.1,.arr 9 q.2.2.2.1,.arr 3 q.2.2.2.2.1,.mp 107 4 q.2.2.2.2.2]])
theorem yIvy (p:IV A×List (IV A)) (q:(List (Int×Int))×(List G_Deed)×(List G_Contact)×(List (List UInt8))×(List Int)×(List (G_net_own×Bool))) (h:yqgy p = some q):p = ygGy q:=by unfold yqgy at h;split at h;(cases h;rfl);cases h
noncomputable def z8z_ (g:Nat) (a1:List G_Deed) (a2:List G_Contact) (a3:List (List UInt8)) (a4:List Int) (a5:List (G_net_own×Bool)) {R:Type} (k0:List (Int×Int)→List G_Deed→List G_Contact→List (List UInt8)→List Int→List (G_net_own×Bool)→Option R):Option R :=
 (ykzy g a1 a2 a3 a4 a5 (fun z0 z1 z2 z3 z4 z5=>some (ygGy (z0,z1,z2,z3,z4,z5)))).bind fun p=>(decK yqgy p (fun q=>k0 q.1 q.2.1 q.2.2.1 q.2.2.2.1 q.2.2.2.2.1 q.2.2.2.2.2) none)
noncomputable def z8z [Fuel]:T_z8z:=@z8z_ NN
def ygby (g:T_z8z):Spec A:=fun args=>match args with | [.box [.arr 51 a1,.arr 49 a2,.arr 9 a3,.arr 3 a4,.mp 107 4 a5]]=>fun k=>g a1 a2 a3 a4 a5 (fun z0 z1 z2 z3 z4 z5=>k (.mp 3 3 z0) [.box [.arr 51 z1,.arr 49 z2,.arr 9 z3,.arr 3 z4,.mp 107 4 z5]]) | _=>fun _=>none
def ym5y:SSt:=mkSh 21 12 [(0,.ptr 0 0),(3,.mp 6),(9,.mp 5)] [(0,.box [.own 51 7,.own 49 8,.own 9 9,.own 3 10,.mp 5]),(5,.gone (2,0)),(6,.mp 3 3),(7,.row 51),(8,.row 49),(9,.row 9),(10,.row 3)]
noncomputable def yhCy (g:Nat) (n:Nat) (m l:List (A 107×A 4)):LPT A:=fun ps=>match ps with | [.mp 3 3 p1,.d (.sl 51 p2),.d (.sl 49 p3),.d (.sl 9 p4),.d (.sl 3 p5)]=>fun K=>z8z_L3 g n m l p1 p2 p3 p4 p5 (fun z0 z1 z2 z3 z4 z5=>K .normal (mkSt 21 12 [(0,.ptr 0 0),(3,.mp 6)] [(0,some (.box [.own 51 7,.own 49 8,.own 9 9,.own 3 10,.mp 5])),(5,some (.mp 107 4 z0)),(6,some (.mp 3 3 z1)),(7,some (.row 51 z2)),(8,some (.row 49 z3)),(9,some (.row 9 z4)),(10,some (.row 3 z5))])) | _=>fun _=>none
noncomputable def yqGy:Code:=(Tryz.f147.body).getD .skip
noncomputable def E_z8z (g:Nat):Env A:=mkE [] [(4,[11]),(5,[6])] [(3,⟨[0,3,9],[],[0,5,6],[(0,0,51,7),(0,1,49,8),(0,2,9,9),(0,3,3,10)],[],[],[]⟩)] [(3,⟨[0,3],[],[0,5,6,7,8,9,10],[],[],[],[]⟩)] [] [] [] [] [] [0]
noncomputable def yD4y (g:Nat):Nat→Option (ybGy A):=fun i=>List.lookup i [(3,ydny 5 107 4 ym5y (yhCy g g))]
theorem ct_z8z [Fuel]:yaky (E_z8z NN).C:=ct_of (P:=Tryz.prog) (T:=T) .nil (by kernel_rfl)
noncomputable def ytVy:RangeP:=(yeay (sub [1,1,0,0] yqGy) (sub [1,1,0,1] yqGy)).get (by kernel_rfl)
theorem yHsy (g:Nat) (n:Nat):yAey (E_z8z g) g ytVy 5 107 4 ym5y (yhCy g) n:=by intro m l ps;unfold yhCy;split;exact .inr fun R K=>(by kernel_rfl);exact .inl fun R K=>rfl
theorem yD1y [Fuel]:ROk (E_z8z NN) (yD4y NN) NN ytVy:=yCiy ym5y (yhCy NN) (by kernel_rfl) (cuts0 (fun _=>rfl) (by kernel_rfl)) (fun m l ps R K=>by unfold yhCy;split <;> (try unfold z8z_L3) <;> rfl) (yHsy NN)
theorem yNVy (g:Nat):Same (ygby (@ykzy g)) (ym8y (E_z8z g) (yD4y g) Tryz.f147 yqGy 12 [0,1,2,3,4,5] [.asis] g):=by intro args;unfold ygby;split;exact .inr fun R k=>(by kernel_rfl);exact .inl fun R k=>rfl
theorem yM9y (g:Nat):Whole (ygby (@z8z_ g)) (ygby (@ykzy g)):=by
 intro args R k res h
 unfold ygby at h
 split at h
 ·obtain ⟨p,hp,h⟩:=Option.bind_eq_some_iff.1 h
  exact ⟨p,hp,(yBhy (inj:=ygGy) yIvy (fun h=>(by cases h)) h)⟩
 ·cases h
theorem yNfy (g:Nat):yaCy (ygby (@z8z_ g)):=by
 intro args R k
 unfold ygby
 split
 ·unfold z8z_
  rw [Option.bind_assoc]
  exact congrArg (Option.bind _) (funext fun p=>(yAFy (inj:=ygGy) rfl))
 ·rfl
theorem yE1y [Fuel]:Ok 147 (ygby (@z8z _)):=yMXy std .nil ⟨rfl,rfl,by kernel_rfl,rfl,rfl,rfl⟩ (yNVy NN) (yM9y NN) (yNfy NN) (cutsR (fun _=>rfl) .nil (.cons yD1y .nil) (by kernel_rfl) (by kernel_rfl)) Tryz.func147 (by kernel_rfl) (by kernel_rfl)
abbrev yvNy:Type 1:=List G_Deed→List G_Contact→List (List UInt8)→List Int→List (G_net_own×Bool)→{R:Type}→(Int→Int→List G_Deed→List G_Contact→List (List UInt8)→List Int→List (G_net_own×Bool)→Option R)→Option R
structure C_z15z where
 N:Nat
 z34z:yvfy
 z8z:T_z8z
def z15z_L3 (g:C_z15z):Nat→Int→List (Int×Int)→List (G_net_own×Bool)→List (Int×Int)→List G_Deed→List G_Contact→List (List UInt8)→List Int→{R:Type}→(Int→Int→List (G_net_own×Bool)→List G_Deed→List G_Contact→List (List UInt8)→List Int→Option R)→(List (G_net_own×Bool)→List G_Deed→List G_Contact→List (List UInt8)→List Int→Option R)→Option R
 | 0,_,_,_,_,_,_,_,_,_,_,_=>none
 | n + 1,v18,v19,v20,v21,v22,v23,v24,v25,_,e0,e1=>(bif (decide (v18≤99999)) then (bif (((ycly v18 v19).getD 0) == 0) then (bif (((ycly v18 v21).getD 0) == 0) then e0 v18 0 v20 v22 v23 v24 v25 else z15z_L3 g n (w64 (v18 + 1)) v19 v20 v21 v22 v23 v24 v25 e0 e1) else z15z_L3 g n (w64 (v18 + 1)) v19 v20 v21 v22 v23 v24 v25 e0 e1) else e1 v20 v22 v23 v24 v25)
def z15z_ (g:C_z15z) (a1:List G_Deed) (a2:List G_Contact) (a3:List (List UInt8)) (a4:List Int) (a5:List (G_net_own×Bool)) {R:Type} (k0:Int→Int→List G_Deed→List G_Contact→List (List UInt8)→List Int→List (G_net_own×Bool)→Option R):Option R :=
 (g.z34z a1 a2 a3 a4 a5 (fun r6 r7 r8 r9 r10 r11=>(g.z8z r7 r8 r9 r10 r11 (fun r12 r13 r14 r15 r16 r17=>(z15z_L3 g g.N 1 r6 r17 r12 r13 r14 r15 r16 (fun e26 e27 e28 e29 e30 e31 e32=>k0 e26 e27 e29 e30 e31 e32 e28) (fun e33 e34 e35 e36 e37=>k0 0 12 e34 e35 e36 e37 e33))))))
noncomputable def yety [Fuel]:C_z15z:=⟨NN,@z34z _,@z8z _⟩
noncomputable def z15z [Fuel]:yvNy:=@z15z_ yety
def yEWy (args:List (IV A)):Bool:=match args with | [.box [.arr 51 _,.arr 49 _,.arr 9 _,.arr 3 _,.mp 107 4 _]]=>true | _=>false
def yoEy (g:yvNy):Spec A:=fun args=>match args with | [.box [.arr 51 a1,.arr 49 a2,.arr 9 a3,.arr 3 a4,.mp 107 4 a5]]=>fun k=>g a1 a2 a3 a4 a5 (fun z0 z1 z2 z3 z4 z5 z6=>k (.tup [.d (.int .i64 z0),.d (.int .i64 z1)]) [.box [.arr 51 z2,.arr 49 z3,.arr 9 z4,.arr 3 z5,.mp 107 4 z6]]) | _=>fun _=>none
def yl7y:SSt:=mkSh 26 22 [(0,.ptr 0 0),(4,.mp 11),(5,.mp 17),(6,.int .i64)] [(0,.box [.own 51 18,.own 49 19,.own 9 20,.own 3 21,.mp 16]),(11,.mp 3 3),(16,.mp 107 4),(17,.mp 3 3),(18,.row 51),(19,.row 49),(20,.row 9),(21,.row 3)]
def yfgy (g:C_z15z) (n:Nat):LPT A:=fun ps=>match ps with | [.d (.int .i64 p1),.mp 3 3 p2,.mp 107 4 p3,.mp 3 3 p4,.d (.sl 51 p5),.d (.sl 49 p6),.d (.sl 9 p7),.d (.sl 3 p8)]=>fun K=>z15z_L3 g n p1 p2 p3 p4 p5 p6 p7 p8 (fun z0 z1 z2 z3 z4 z5 z6=>K .ret (mkSt 26 22 [(0,.ptr 0 0),(2,.d (.int .i64 z0)),(3,.d (.int .i64 z1))] [(0,some (.box [.own 51 18,.own 49 19,.own 9 20,.own 3 21,.mp 16])),(16,some (.mp 107 4 z2)),(18,some (.row 51 z3)),(19,some (.row 49 z4)),(20,some (.row 9 z5)),(21,some (.row 3 z6))])) (fun z0 z1 z2 z3 z4=>K (.exit 0) (mkSt 26 22 [(0,.ptr 0 0)] [(0,some (.box [.own 51 18,.own 49 19,.own 9 20,.own 3 21,.mp 16])),(16,some (.mp 107 4 z0)),(18,some (.row 51 z1)),(19,some (.row 49 z2)),(20,some (.row 9 z3)),(21,some (.row 3 z4))])) | _=>fun _=>none
noncomputable def yrvy (g:C_z15z):Env A:=mkE [(146,yoxy g.z34z),(147,ygby g.z8z)] [(8,[6,7,8,9,10,11]),(10,[12,13,14,15,16,17])] [(3,⟨[0,4,5,6],[],[0,11,16,17],[(0,0,51,18),(0,1,49,19),(0,2,9,20),(0,3,3,21)],[],[],[]⟩)] [(3,⟨[0,2,3],[],[0,16,18,19,20,21],[],[],[],[]⟩)] [(3,yajy yl7y (yfgy g g.N))] [] [] [] [] [0]
theorem yKny [Fuel]:yaky (yrvy yety).C:=ct_of (P:=Tryz.prog) (T:=T) (.cons yBYy (.cons yE1y .nil)) (by kernel_rfl)
noncomputable def yr7y:Code:=sub [1,1,0,1,0,0] yoly
theorem yDZy (g:C_z15z) (n:Nat):yaoy (yrvy g) g.N yr7y yl7y (yfgy g) n:=by intro ps;unfold yfgy;split;exact .inr fun R K=>(by kernel_rfl);exact .inl fun R K=>rfl
theorem yCpy [Fuel]:yagy (yrvy yety) NN yr7y:=yaly yl7y (yfgy yety) (by kernel_rfl) yKny (cuts0 (fun _=>rfl) (by kernel_rfl)) (fun ps R K=>by unfold yfgy;split <;> (try unfold z15z_L3) <;> rfl) (yDZy yety)
theorem yLFy (g:C_z15z):Same (yoEy (@z15z_ g)) (abody (yrvy g) Tryz.f89 yoly 22 [0,1,2,3,4,5] [.asis,.asis] g.N):=by intro args;unfold yoEy;split;exact .inr fun R k=>(by kernel_rfl);exact .inl fun R k=>rfl
theorem yKNy [Fuel]:Ok 89 (yoEy (@z15z _)):=yacy std (.cons yBYy (.cons yE1y .nil)) ⟨rfl,rfl,by kernel_rfl,rfl,rfl,rfl⟩ (yLFy yety) (cutsL (fun _=>rfl) (.cons yCpy .nil) (by kernel_rfl)) Tryz.func89 (by kernel_rfl) (by kernel_rfl)
abbrev yl6y:Type 1:=List G_Deed→Int→{R:Type}→(Int→Int→Option R)→Option R
structure C_net_Next where
 N:Nat
 z81z:yywy
 z15z:yvNy
 z67z:yu8y
def ynwy (g:C_net_Next) (a1:List G_Deed) (a2:Int) {R:Type} (k0:Int→Int→Option R):Option R :=
 (g.z81z a1 a2 (fun r3=>(bif (r3 != 0) then k0 0 r3 else (g.z67z))) (fun r4 r5 r6 r7 r8 r9=>(bif (r9 != 0) then k0 0 r9 else (g.z15z r4 r5 r6 r7 r8 (fun r10 r11 r12 r13 r14 r15 r16=>k0 r10 r11)))))
noncomputable def yiay [Fuel]:C_net_Next:=⟨NN,@z81z _,@z15z _,@z67z _⟩
noncomputable def net_Next [Fuel]:yl6y:=@ynwy yiay
def yhey (g:yl6y):Spec A:=fun args=>match args with | [.d (.sl 51 a1),.d (.int .i64 a2)]=>fun k=>g a1 a2 (fun z0 z1=>k (.tup [.d (.int .i64 z0),.d (.int .i64 z1)]) [.undef,.undef]) | _=>fun _=>none
noncomputable def yJ3y:Code:=(Tryz.f40.body).getD .skip
noncomputable def yCCy (g:C_net_Next):Env A:=mkE [(88,ypcy g.z81z),(89,orS yEWy (yoEy g.z15z) (yosy g.z67z))] [(11,[0,1,2,3,4,5]),(18,[6,7,8,9,10])] [] [] [] [] [] [] [] []
theorem yzay (g:C_net_Next):Same (yhey (@ynwy g)) (abody (yCCy g) Tryz.f40 yJ3y 11 [] [.asis,.asis] g.N):=by intro args;unfold yhey;split;exact .inr fun R k=>(by kernel_rfl);exact .inl fun R k=>rfl
theorem yz1y [Fuel]:Ok 40 (yhey (@net_Next _)):=yacy std (.cons yLXy (.cons (ok_or yEWy yKNy yJ5y) .nil)) ⟨rfl,rfl,by kernel_rfl,rfl,rfl,rfl⟩ (yzay yiay) (cuts0 (fun _=>rfl) (by kernel_rfl)) Tryz.func40 (by kernel_rfl) (by kernel_rfl)
abbrev yiOy:Type 1:={R:Type}→(Bool→Option R)→Option R
structure C_keep_ready where
 N:Nat
 keep_errs:yhgy
 log_Dupes:yjOy
 band_May:ylxy
 club_Table:yi5y
 net_Next:yl6y
def ypGy (g:C_keep_ready)  {R:Type} (k0:Bool→Option R):Option R :=
 (g.log_Dupes [(⟨0,1,[98],[107,49,97,98],0,0,[],[]⟩:G_Contact),(⟨5,1,[98],[107,49,97,98],0,0,[],[]⟩:G_Contact)] (fun r1 r2=>(g.band_May [(⟨[99],5,8,[1],(⟨0,9⟩:G_Window)⟩:G_Segment)] [99] 6 3 1 0 (fun r3 r4=>(g.club_Table [(⟨[107,49,97,98],[99],5,[]⟩:G_Entrant)] [99] (fun r5 r6=>(g.net_Next [(⟨[97],1,0,3,(⟨0,0,[],[],1,0,[],[]⟩:G_Contact),[],[],0⟩:G_Deed)] 0 (fun r7 r8=>(g.keep_errs [r2,r4,r6,r8] (fun r9=>(bif (r9 == 0) then (bif ((r1.length:Int) == 1) then (bif r3 then (bif ((r5.length:Int) == 1) then k0 (r7 == 2) else k0 false) else k0 false) else k0 false) else k0 false)))))))))))
noncomputable def ya3y [Fuel]:C_keep_ready:=⟨NN,@keep_errs _,@log_Dupes _,@band_May _,@club_Table _,@net_Next _⟩
noncomputable def keep_ready [Fuel]:yiOy:=@ypGy ya3y
def yeFy (g:yiOy):Spec A:=fun args=>match args with | []=>fun k=>g (fun z0=>k (.d (.bool z0)) []) | _=>fun _=>none
noncomputable def yKqy:Code:=(Tryz.f13.body).getD .skip
noncomputable def yxZy (g:C_keep_ready):Env A:=mkE [(11,ydGy g.keep_errs),(37,yfYy g.log_Dupes),(38,yhky g.band_May),(39,yeGy g.club_Table),(40,yhey g.net_Next)] [(1,[0]),(2,[1]),(17,[2]),(18,[3]),(22,[4]),(25,[5]),(31,[6]),(32,[7]),(38,[8]),(46,[9])] [] [] [] [] [] [] [] []
theorem yuLy (g:C_keep_ready):Same (yeFy (@ypGy g)) (abody (yxZy g) Tryz.f13 yKqy 10 [] [.asis] g.N):=by intro args;unfold yeFy;split;exact .inr fun R k=>(by kernel_rfl);exact .inl fun R k=>rfl
theorem ymDy [Fuel]:Ok 13 (yeFy (@keep_ready _)):=yacy std (.cons yiUy (.cons yv4y (.cons yzZy (.cons yuSy (.cons yz1y .nil))))) ⟨rfl,rfl,by kernel_rfl,rfl,rfl,rfl⟩ (yuLy ya3y) (cuts0 (fun _=>rfl) (by kernel_rfl)) Tryz.func13 (by kernel_rfl) (by kernel_rfl)
abbrev yhSy:Type 1:=List Int→{R:Type}→(Bool→Option R)→Option R
structure C_keep_DeedsAgree where
 N:Nat
 z52z:ynpy
 keep_errs:yhgy
 keep_ready:yiOy
 z28z:ywcy
 z32z:yxIy
 net_Merge:yj5y
 net_Text:yloy
 net_Read:yl9y
 z38z:yvgy
 z86z:yvZy
def yaNy (g:C_keep_DeedsAgree):Nat→Int→Int→Int→List G_Deed→List G_Deed→{R:Type}→(Int→List G_Deed→Option R)→Option R
 | 0,_,_,_,_,_,_,_=>none
 | n + 1,v24,v25,v26,v27,v28,_,e0=>(bif (decide (v26 < v25)) then (inr v27 v26 (at_ v27 v26 fun x30=>(bif (x30.f_Kind != 5) then (bif (decide ((v28.length + [x30].length) * 176≤yady)) then yaNy g n v24 v25 (w64 (v26 + 1)) v27 (v28++[x30]) e0 else none) else yaNy g n v24 v25 (w64 (v26 + 1)) v27 v28 e0))) else e0 v24 v28)
def yaOy (g:C_keep_DeedsAgree):Nat→Int→Int→Int→Int→Int→List G_Deed→List Int→{R:Type}→(Int→Int→List Int→Option R)→Option R
 | 0,_,_,_,_,_,_,_,_,_=>none
 | n + 1,v35,v36,v37,v38,v39,v40,v41,_,e0=>(bif (decide (v39 < v38)) then (inr v40 v39 (at_ v40 v39 fun x43=>(bif (decide (x43.f_At≤v35)) then yaOy g n v35 v36 (w64 (v37 + 1)) v38 (w64 (v39 + 1)) v40 v41 e0 else yaOy g n v35 v36 v37 v38 (w64 (v39 + 1)) v40 v41 e0))) else e0 v36 v37 v41)
def yc8y (g:C_keep_DeedsAgree) (a1:List Int) {R:Type} (k0:Bool→Option R):Option R :=
 (g.z52z (⟨a1,0⟩:G_Stream) 0 12 (fun r2 r3=>(g.z28z r3 r2 (fun r4 r5=>(g.z52z r5 0 60 (fun r6 r7=>(g.z32z r7 r4 (fun r8 r9 r10=>(g.net_Merge r8 r9 (fun r11 r12=>(g.net_Merge r9 r8 (fun r13 r14=>(g.net_Text r4 (fun r15 r16=>(g.net_Read r15 (fun r17 r18 r19=>(g.keep_errs [r12,r14,r16,r19] (fun r20=>(bif (r20 != 0) then k0 false else (g.z38z r11 r4 (fun r21=>(bif (!r21) then k0 false else (g.z38z r13 r4 (fun r22=>(bif (!r22) then k0 false else (g.z38z r17 r4 (fun r23=>(bif (!r23) then k0 false else (yaNy g g.N r6 (r4.length:Int) 0 r4 [] (fun e31 e32=>(g.z86z e32 e31 (fun r33 r34=>(yaOy g g.N e31 r34 0 (e32.length:Int) 0 e32 r33 (fun e44 e45 e46=>(bif (e44 == 0) then (bif ((e46.length:Int) == e45) then (g.keep_ready (fun r47=>k0 r47)) else k0 false) else k0 false)))))))))))))))))))))))))))))))))))
noncomputable def yaiy [Fuel]:C_keep_DeedsAgree:=⟨NN,@z52z _,@keep_errs _,@keep_ready _,@z28z _,@z32z _,@net_Merge _,@net_Text _,@net_Read _,@z38z _,@z86z _⟩
noncomputable def keep_DeedsAgree [Fuel]:yhSy:=@yc8y yaiy
def SS_keep_DeedsAgree (g:yhSy):Spec A:=fun args=>match args with | [.d (.sl 3 a1)]=>fun k=>g a1 (fun z0=>k (.d (.bool z0)) [.undef]) | _=>fun _=>none
def ycLy:SSt:=mkSh 131 14 [(5,.int .i64),(17,.own 51 8),(87,.own 51 1),(88,.int .i64),(89,.int .i64)] [(1,.frz 51),(8,.row 51)]
def ybty (g:C_keep_DeedsAgree) (n:Nat):LPT A:=fun ps=>match ps with | [.d (.int .i64 p1),.d (.int .i64 p2),.d (.int .i64 p3),.d (.sl 51 p4),.d (.sl 51 p5)]=>fun K=>yaNy g n p1 p2 p3 p4 p5 (fun z0 z1=>K (.exit 0) (mkSt 131 14 [(5,.d (.int .i64 z0)),(17,.own 51 8)] [(8,some (.row 51 z1))])) | _=>fun _=>none
def ycMy:SSt:=mkSh 131 14 [(5,.int .i64),(9,.int .i64),(20,.own 3 12),(21,.int .i64),(107,.own 51 8),(108,.int .i64),(109,.int .i64)] [(8,.row 51),(12,.row 3)]
def ybsy (g:C_keep_DeedsAgree) (n:Nat):LPT A:=fun ps=>match ps with | [.d (.int .i64 p1),.d (.int .i64 p2),.d (.int .i64 p3),.d (.int .i64 p4),.d (.int .i64 p5),.d (.sl 51 p6),.d (.sl 3 p7)]=>fun K=>yaOy g n p1 p2 p3 p4 p5 p6 p7 (fun z0 z1 z2=>K (.exit 2) (mkSt 131 14 [(9,.d (.int .i64 z0)),(20,.own 3 12),(21,.d (.int .i64 z1))] [(12,some (.row 3 z2))])) | _=>fun _=>none
noncomputable def yxdy:Code:=(Tryz.f4.body).getD .skip
noncomputable def ybNy (g:C_keep_DeedsAgree):Env A:=mkE [(6,yisy g.z52z),(11,ydGy g.keep_errs),(13,yeFy g.keep_ready),(14,yo8y g.z28z),(15,yoAy g.z32z),(16,ygiy g.net_Merge),(17,yhcy g.net_Text),(18,yhhy g.net_Read),(19,yo6y g.z38z),(20,yo1y g.z86z)] [(19,[9]),(23,[13]),(26,[0]),(30,[1]),(36,[2,3]),(42,[4]),(48,[5]),(58,[6]),(66,[7]),(98,[10]),(99,[11]),(104,[12])] [(12,⟨[5,17,87,88,89],[(17,51,8)],[1],[],[],[],[]⟩),(20,⟨[5,9,20,21,107,108,109],[],[8,12],[],[],[],[]⟩)] [(12,⟨[5,17],[],[8],[],[],[],[]⟩),(20,⟨[9,20,21],[],[12],[],[],[],[]⟩)] [(12,yajy ycLy (ybty g g.N)),(20,yajy ycMy (ybsy g g.N))] [] [] [] [] []
theorem yhvy [Fuel]:yaky (ybNy yaiy).C:=ct_of (P:=Tryz.prog) (T:=T) (.cons ykGy (.cons yiUy (.cons ymDy (.cons yAmy (.cons yAEy (.cons ynzy (.cons ypYy (.cons ypuy (.cons yBDy (.cons yByy .nil)))))))))) (by kernel_rfl)
noncomputable def yeky:Code:=sub [1,1,1,1,1,1,1,1,1,1,0,1,0,0] yxdy
theorem ykhy (g:C_keep_DeedsAgree) (n:Nat):yaoy (ybNy g) g.N yeky ycLy (ybty g) n:=by intro ps;unfold ybty;split;exact .inr fun R K=>(by kernel_rfl);exact .inl fun R K=>rfl
theorem yjZy [Fuel]:yagy (ybNy yaiy) NN yeky:=yaly ycLy (ybty yaiy) (by kernel_rfl) yhvy (cuts0 (fun _=>rfl) (by kernel_rfl)) (fun ps R K=>by unfold ybty;split <;> (try unfold yaNy) <;> rfl) (ykhy yaiy)
noncomputable def yewy:Code:=sub [1,1,1,1,1,1,1,1,1,1,1,1,1,0,1,0,0] yxdy
theorem ykyy (g:C_keep_DeedsAgree) (n:Nat):yaoy (ybNy g) g.N yewy ycMy (ybsy g) n:=by intro ps;unfold ybsy;split;exact .inr fun R K=>(by kernel_rfl);exact .inl fun R K=>rfl
theorem yjIy [Fuel]:yagy (ybNy yaiy) NN yewy:=yaly ycMy (ybsy yaiy) (by kernel_rfl) yhvy (cuts0 (fun _=>rfl) (by kernel_rfl)) (fun ps R K=>by unfold ybsy;split <;> (try unfold yaOy) <;> rfl) (ykyy yaiy)
theorem ymYy (g:C_keep_DeedsAgree):Same (SS_keep_DeedsAgree (@yc8y g)) (abody (ybNy g) Tryz.f4 yxdy 14 [] [.asis] g.N):=by intro args;unfold SS_keep_DeedsAgree;split;exact .inr fun R k=>(by kernel_rfl);exact .inl fun R k=>rfl
theorem ok_keep_DeedsAgree [Fuel]:Ok 4 (SS_keep_DeedsAgree (@keep_DeedsAgree _)):=yacy std (.cons ykGy (.cons yiUy (.cons ymDy (.cons yAmy (.cons yAEy (.cons ynzy (.cons ypYy (.cons ypuy (.cons yBDy (.cons yByy .nil)))))))))) ⟨rfl,rfl,by kernel_rfl,rfl,rfl,rfl⟩ (ymYy yaiy) (cutsL (fun _=>rfl) (.cons yjZy (.cons yjIy .nil)) (by kernel_rfl)) Tryz.func4 (by kernel_rfl) (by kernel_rfl)
end Go.Am
