/- The functions of the program as Lean functions, each shown to be what the code computes, part 6. No condition: lemmas for the claim. -/
import Derived.Test.YtphcgliehecbkaaGreatDoorF0
import Derived.Test.YtphcgliehecbkaaGreatDoorFSh
import Derived.Test.YtphcgliehecbkaaGreatDoorF1
import Derived.Test.YtphcgliehecbkaaGreatDoorF4
import Derived.Test.YtphcgliehecbkaaGreatDoorF5
set_option linter.unusedVariables false
set_option maxRecDepth 100000
namespace Go.Am
open Go Go.Proofs
abbrev ytYy:Type 1:=List G_Deed→{R:Type}→(List G_Deed→Option R)→Option R
noncomputable def z36z [Fuel]:ytYy:=@ybwy G_Deed (@z35z _)
def yi7y (g:ytYy):Spec A:=fun args=>match args with | [.arr 35 a1,.fn 34 []]=>fun k=>g a1 (fun z=>k (.tup []) [.arr 35 z,.fn 34 []]) | _=>fun _=>none
theorem yxKy [Fuel] (xs:List (A 35)) (R:Type) (k:IV A→List (IV A)→Option R):yi7y (@z36z _) [.arr 35 xs,.fn 34 []] k = ybwy (α:=A 35) (@z35z _) xs (fun z=>k (.tup []) [.arr 35 z,.fn 34 []]):=by kernel_rfl
theorem yxWy [Fuel] (args:List (IV A)) (R:Type) (k:IV A→List (IV A)→Option R) (h:∀ xs:List (A 35),args ≠ [.arr 35 xs,.fn 34 []]):yi7y (@z36z _) args k = none:=by unfold yi7y; split; exact absurd rfl (h _); rfl
theorem yEGy [Fuel] (x y:A 35) (R:Type) (k:Int→Option R):yiyy T (ydky (@z35z _)) 35 x y k = @z35z _ x y R k:=by kernel_rfl
theorem yEAy (x:G_Deed):(ymhy x).all scal = true:=rfl
theorem yxHy [Fuel]:Ok 33 (yi7y (@z36z _)):=⟨yfLy (tyOk Tryz.prog) (e:=35) Tryz.sortf33 Tryz.isAgg35 Tryz.sizeOf35 (fun x d hd=>List.all_eq_true.1 (yEAy x) d hd) yEGy ytmy.fs ytmy.en yxKy yxWy,yjLy (e:=35) yxKy yxWy,yaHy (fn:=Tryz.f33) Tryz.func33 (by kernel_rfl) (by kernel_rfl)⟩
abbrev yuvy:Type 1:=List G_Deed→{R:Type}→(List G_Deed→Int→Option R)→Option R
structure C_z26z where
 N:Nat
 z11z:ykIy
 z10z:yuVy
 z36z:ytYy
def z26z_L2 (g:C_z26z):Nat→List G_Deed→Int→Int→List (List G_Deed)→{R:Type}→(List G_Deed→Int→Option R)→(List G_Deed→Option R)→Option R
 | 0,_,_,_,_,_,_,_=>none
 | n + 1,v2,v3,v4,v5,_,e0,e1=>(bif (decide (v4 < v3)) then (inr v5 v4 (at_ v5 v4 fun x8=>(g.z11z x8 (fun r9=>(bif (r9 != 0) then e0 v2 r9 else z26z_L2 g n v2 v3 (w64 (v4 + 1)) v5 e0 e1))))) else e1 v2)
def z26z_L11 (g:C_z26z):Nat→Int→Int→List (G_net_own×G_Deed)→List G_Deed→List G_Deed→{R:Type}→(Int→List G_Deed→Option R)→(List G_Deed→Option R)→Option R
 | 0,_,_,_,_,_,_,_,_=>none
 | n + 1,v14,v15,v16,v17,v18,_,e0,e1=>(bif (decide (v15 < v14)) then (inr v17 v15 (at_ v17 v15 fun x20=>(bif (!(yaly (⟨x20.f_Site,x20.f_No⟩:G_net_own) v16).isSome) then (bif (decide ((v18.length + [x20].length) * 176≤yady)) then z26z_L11 g n v14 (w64 (v15 + 1)) (ybKy (⟨x20.f_Site,x20.f_No⟩:G_net_own) x20 v16) v17 (v18 ++ [x20]) e0 e1 else none) else (bif (!(yaUy (⟨((yaly (⟨x20.f_Site,x20.f_No⟩:G_net_own) v16).getD (⟨[],0,0,0,(⟨0,0,[],[],0,0,[],[]⟩:G_Contact),[],[],0⟩:G_Deed)).f_Site,((yaly (⟨x20.f_Site,x20.f_No⟩:G_net_own) v16).getD (⟨[],0,0,0,(⟨0,0,[],[],0,0,[],[]⟩:G_Contact),[],[],0⟩:G_Deed)).f_No,((yaly (⟨x20.f_Site,x20.f_No⟩:G_net_own) v16).getD (⟨[],0,0,0,(⟨0,0,[],[],0,0,[],[]⟩:G_Contact),[],[],0⟩:G_Deed)).f_At,((yaly (⟨x20.f_Site,x20.f_No⟩:G_net_own) v16).getD (⟨[],0,0,0,(⟨0,0,[],[],0,0,[],[]⟩:G_Contact),[],[],0⟩:G_Deed)).f_Kind,(⟨((yaly (⟨x20.f_Site,x20.f_No⟩:G_net_own) v16).getD (⟨[],0,0,0,(⟨0,0,[],[],0,0,[],[]⟩:G_Contact),[],[],0⟩:G_Deed)).f_Contact.f_At,((yaly (⟨x20.f_Site,x20.f_No⟩:G_net_own) v16).getD (⟨[],0,0,0,(⟨0,0,[],[],0,0,[],[]⟩:G_Contact),[],[],0⟩:G_Deed)).f_Contact.f_Mode,((yaly (⟨x20.f_Site,x20.f_No⟩:G_net_own) v16).getD (⟨[],0,0,0,(⟨0,0,[],[],0,0,[],[]⟩:G_Contact),[],[],0⟩:G_Deed)).f_Contact.f_Band,((yaly (⟨x20.f_Site,x20.f_No⟩:G_net_own) v16).getD (⟨[],0,0,0,(⟨0,0,[],[],0,0,[],[]⟩:G_Contact),[],[],0⟩:G_Deed)).f_Contact.f_Call,((yaly (⟨x20.f_Site,x20.f_No⟩:G_net_own) v16).getD (⟨[],0,0,0,(⟨0,0,[],[],0,0,[],[]⟩:G_Contact),[],[],0⟩:G_Deed)).f_Contact.f_Sent,((yaly (⟨x20.f_Site,x20.f_No⟩:G_net_own) v16).getD (⟨[],0,0,0,(⟨0,0,[],[],0,0,[],[]⟩:G_Contact),[],[],0⟩:G_Deed)).f_Contact.f_Heard,((yaly (⟨x20.f_Site,x20.f_No⟩:G_net_own) v16).getD (⟨[],0,0,0,(⟨0,0,[],[],0,0,[],[]⟩:G_Contact),[],[],0⟩:G_Deed)).f_Contact.f_Gave,((yaly (⟨x20.f_Site,x20.f_No⟩:G_net_own) v16).getD (⟨[],0,0,0,(⟨0,0,[],[],0,0,[],[]⟩:G_Contact),[],[],0⟩:G_Deed)).f_Contact.f_Got⟩:G_Contact),((yaly (⟨x20.f_Site,x20.f_No⟩:G_net_own) v16).getD (⟨[],0,0,0,(⟨0,0,[],[],0,0,[],[]⟩:G_Contact),[],[],0⟩:G_Deed)).f_Band,((yaly (⟨x20.f_Site,x20.f_No⟩:G_net_own) v16).getD (⟨[],0,0,0,(⟨0,0,[],[],0,0,[],[]⟩:G_Contact),[],[],0⟩:G_Deed)).f_Of,((yaly (⟨x20.f_Site,x20.f_No⟩:G_net_own) v16).getD (⟨[],0,0,0,(⟨0,0,[],[],0,0,[],[]⟩:G_Contact),[],[],0⟩:G_Deed)).f_Other⟩:G_Deed) x20)) then e0 13 v18 else z26z_L11 g n v14 (w64 (v15 + 1)) v16 v17 v18 e0 e1)))) else e1 v18)
def z26z_ (g:C_z26z) (a1:List G_Deed) {R:Type} (k0:List G_Deed→Int→Option R):Option R :=
 (z26z_L2 g g.N a1 ([a1,[]].length:Int) 0 [a1,[]] (fun e10 e11=>k0 [] e11) (fun e12=>(g.z10z [e12,[]] (fun r13=>(z26z_L11 g g.N (r13.length:Int) 0 [] r13 [] (fun e21 e22=>k0 [] e21) (fun e23=>(bif (decide ((e23.length:Int) > 2000)) then k0 [] 2 else (g.z36z e23 (fun r24=>k0 r24 0)))))))))
noncomputable def ybOy [Fuel]:C_z26z:=⟨NN,@z11z _,@z10z _,@z36z _⟩
noncomputable def z26z [Fuel]:yuvy:=@z26z_ ybOy
def yl6y (g:yuvy):Spec A:=fun args=>match args with | [.d (.sl 35 a1),.d .nsl]=>fun k=>g a1 (fun z0 z1=>k (.tup [.arr 35 z0,.d (.int .i64 z1)]) [.undef,.undef]) | _=>fun _=>none
def yjvy:SSt:=mkSh 72 10 [(0,.sl 35),(1,.nsl),(18,.own 26 0),(19,.int .i64),(20,.int .i64)] [(0,.row 26)]
def yezy (g:C_z26z) (n:Nat):LPT A:=fun ps=>match ps with | [.d (.sl 35 p1),.d (.int .i64 p2),.d (.int .i64 p3),.d (.sl 26 p4)]=>fun K=>z26z_L2 g n p1 p2 p3 p4 (fun z0 z1=>K .ret (mkSt 72 10 [(0,.d (.sl 35 z0)),(1,.d .nsl),(4,.d .nsl),(5,.d (.int .i64 z1))] [])) (fun z0=>K (.exit 0) (mkSt 72 10 [(0,.d (.sl 35 z0)),(1,.d .nsl)] [])) | _=>fun _=>none
def yhNy:SSt:=mkSh 72 10 [(9,.mp 1),(10,.own 35 4),(34,.own 35 3),(35,.int .i64),(36,.int .i64)] [(1,.mp 67 35),(3,.row 35),(4,.row 35)]
def ydry (g:C_z26z) (n:Nat):LPT A:=fun ps=>match ps with | [.d (.int .i64 p1),.d (.int .i64 p2),.mp 67 35 p3,.d (.sl 35 p4),.d (.sl 35 p5)]=>fun K=>z26z_L11 g n p1 p2 p3 p4 p5 (fun z0 z1=>K .ret (mkSt 72 10 [(4,.d .nsl),(5,.d (.int .i64 z0)),(10,.own 35 4)] [(4,some (.row 35 z1))])) (fun z0=>K (.exit 2) (mkSt 72 10 [(10,.own 35 4)] [(4,some (.row 35 z0))])) | _=>fun _=>none
noncomputable def ytoy:Code:=(Tryz.f6.body).getD .skip
noncomputable def yisy (g:C_z26z):Env A:=mkE [(28,ygJy g.z11z),(32,ymdy g.z10z),(33,yi7y g.z36z)] [(12,[5]),(13,[6]),(14,[7]),(18,[0]),(30,[1]),(33,[2]),(34,[3]),(59,[8]),(60,[9])] [(2,⟨[0,1,18,19,20],[],[0],[],[],[],[]⟩),(11,⟨[9,10,34,35,36],[(10,35,4)],[1,3],[],[],[],[]⟩)] [(2,⟨[0,1,4,5],[],[],[],[],[],[]⟩),(11,⟨[4,5,10],[],[4],[],[],[],[]⟩)] [(2,yaiy yjvy (yezy g g.N)),(11,yaiy yhNy (ydry g g.N))] [] [] [] [(33,0)] []
theorem yxTy [Fuel]:yajy (yisy ybOy).C:=ct_of (P:=Tryz.prog) (T:=T) (.cons yi2y (.cons yx4y (.cons yxHy .nil))) (by kernel_rfl)
noncomputable def yony:Code:=sub [1,0,1,0,0] ytoy
theorem yBgy (g:C_z26z) (n:Nat):yamy (yisy g) g.N yony yjvy (yezy g) n:=by intro ps; unfold yezy; split; exact .inr fun R K=>(by kernel_rfl); exact .inl fun R K=>rfl
theorem yy0y [Fuel]:yagy (yisy ybOy) NN yony:=yaky yjvy (yezy ybOy) (by kernel_rfl) yxTy (cuts0 (fun _=>rfl) (by kernel_rfl)) (fun ps R K=>by unfold yezy; split <;> (try unfold z26z_L2) <;> rfl) (yBgy ybOy)
noncomputable def ym0y:Code:=sub [1,1,1,1,0,1,0,0] ytoy
theorem yzPy (g:C_z26z) (n:Nat):yamy (yisy g) g.N ym0y yhNy (ydry g) n:=by intro ps; unfold ydry; split; exact .inr fun R K=>(by kernel_rfl); exact .inl fun R K=>rfl
theorem yvUy [Fuel]:yagy (yisy ybOy) NN ym0y:=yaky yhNy (ydry ybOy) (by kernel_rfl) yxTy (cuts0 (fun _=>rfl) (by kernel_rfl)) (fun ps R K=>by unfold ydry; split <;> (try unfold z26z_L11) <;> rfl) (yzPy ybOy)
theorem yHCy (g:C_z26z):Same (yl6y (@z26z_ g)) (abody (yisy g) Tryz.f6 ytoy 10 [] [.arr 35,.asis] g.N):=by intro args; unfold yl6y; split; exact .inr fun R k=>(by kernel_rfl); exact .inl fun R k=>rfl
theorem yEqy [Fuel]:Ok 6 (yl6y (@z26z _)):=yacy std (.cons yi2y (.cons yx4y (.cons yxHy .nil))) ⟨rfl,rfl,by kernel_rfl,rfl,rfl,rfl⟩ (yHCy ybOy) (cutsL (fun _=>rfl) (.cons yy0y (.cons yvUy .nil)) (by kernel_rfl)) Tryz.func6 (by kernel_rfl) (by kernel_rfl)
abbrev yvdy:Type 1:=List G_Deed→{R:Type}→(List G_Deed→Option R)→Option R
def z46z_L2 (g:Nat):Nat→Int→Int→List G_Deed→G_Deed→{R:Type}→(List G_Deed→Option R)→Option R
 | 0,_,_,_,_,_,_=>none
 | n + 1,v2,v3,v4,v5,_,e0=>(bif (decide (v3 < v2)) then (inr v4 v3 (at_ v4 v3 fun x7=>z46z_L2 g n v2 (w64 (v3 + 1)) (set_ v4 v3 v5) v5 e0)) else e0 v4)
def z46z_ (g:Nat) (a1:List G_Deed) {R:Type} (k0:List G_Deed→Option R):Option R :=
 (z46z_L2 g g (a1.length:Int) 0 a1 (⟨[],0,0,0,(⟨0,0,[],[],0,0,[],[]⟩:G_Contact),[],[],0⟩:G_Deed) (fun e8=>k0 e8))
noncomputable def z46z [Fuel]:yvdy:=@z46z_ NN
def ylIy (g:yvdy):Spec A:=fun args=>match args with | [.arr 35 a1]=>fun k=>g a1 (fun z0=>k (.tup []) [.arr 35 z0]) | _=>fun _=>none
def yjky:SSt:=mkSh 14 2 [(0,.own 35 0),(2,.ptr 1 0),(5,.int .i64),(6,.int .i64)] [(0,.row 35),(1,.box [.str,.int .i64,.int .i64,.int .i64,.int .i64,.int .i64,.str,.str,.int .i64,.int .i64,.str,.str,.str,.str,.int .i64])]
def yfgy (g:Nat) (n:Nat):LPT A:=fun ps=>match ps with | [.d (.int .i64 p1),.d (.int .i64 p2),.d (.sl 35 p3),.d (.str p4),.d (.int .i64 p5),.d (.int .i64 p6),.d (.int .i64 p7),.d (.int .i64 p8),.d (.int .i64 p9),.d (.str p10),.d (.str p11),.d (.int .i64 p12),.d (.int .i64 p13),.d (.str p14),.d (.str p15),.d (.str p16),.d (.str p17),.d (.int .i64 p18)]=>fun K=>z46z_L2 g n p1 p2 p3 ⟨p4,p5,p6,p7,⟨p8,p9,p10,p11,p12,p13,p14,p15⟩,p16,p17,p18⟩ (fun z0=>K (.exit 0) (mkSt 14 2 [(0,.own 35 0)] [(0,some (.row 35 z0))])) | _=>fun _=>none
noncomputable def yAVy:Code:=(Tryz.f7.body).getD .skip
noncomputable def yoxy (g:Nat):Env A:=mkE [] [(2,[1])] [(2,⟨[0,2,5,6],[],[0,1],[],[],[],[]⟩)] [(2,⟨[0],[],[0],[],[],[],[]⟩)] [(2,yaiy yjky (yfgy g g))] [] [] [] [] [0]
theorem yGQy [Fuel]:yajy (yoxy NN).C:=ct_of (P:=Tryz.prog) (T:=T) .nil (by kernel_rfl)
noncomputable def ypTy:Code:=sub [1,1,0,0] yAVy
theorem yAXy (g:Nat) (n:Nat):yamy (yoxy g) g ypTy yjky (yfgy g) n:=by intro ps; unfold yfgy; split; exact .inr fun R K=>(by kernel_rfl); exact .inl fun R K=>rfl
theorem yzRy [Fuel]:yagy (yoxy NN) NN ypTy:=yaky yjky (yfgy NN) (by kernel_rfl) yGQy (cuts0 (fun _=>rfl) (by kernel_rfl)) (fun ps R K=>by unfold yfgy; split <;> (try unfold z46z_L2) <;> rfl) (yAXy NN)
theorem yE4y (g:Nat):Same (ylIy (@z46z_ g)) (abody (yoxy g) Tryz.f7 yAVy 2 [0] [] g):=by intro args; unfold ylIy; split; exact .inr fun R k=>(by kernel_rfl); exact .inl fun R k=>rfl
theorem yEWy [Fuel]:Ok 7 (ylIy (@z46z _)):=yacy std .nil ⟨rfl,rfl,by kernel_rfl,rfl,rfl,rfl⟩ (yE4y NN) (cutsL (fun _=>rfl) (.cons yzRy .nil) (by kernel_rfl)) Tryz.func7 (by kernel_rfl) (by kernel_rfl)
abbrev yvuy:Type 1:=List G_Deed→Int→{R:Type}→(Int→Option R)→Option R
structure C_z70z where
 N:Nat
 z11z:ykIy
 z58z:yioy
def z70z_ (g:C_z70z) (a1:List G_Deed) (a2:Int) {R:Type} (k0:Int→Option R):Option R :=
 (g.z11z a1 (fun r3=>(bif (r3 != 0) then k0 r3 else (g.z58z a2 (fun r4=>(bif (!r4) then k0 1 else k0 0))))))
noncomputable def ylwy [Fuel]:C_z70z:=⟨NN,@z11z _,@z58z _⟩
noncomputable def z70z [Fuel]:yvuy:=@z70z_ ylwy
def ylKy (g:yvuy):Spec A:=fun args=>match args with | [.d (.sl 35 a1),.d (.int .i64 a2)]=>fun k=>g a1 a2 (fun z0=>k (.d (.int .i64 z0)) [.undef,.undef]) | _=>fun _=>none
noncomputable def yGVy:Code:=(Tryz.f54.body).getD .skip
noncomputable def yI9y (g:C_z70z):Env A:=mkE [(28,ygJy g.z11z),(70,yfvy g.z58z)] [] [] [] [] [] [] [] [] []
theorem yEXy (g:C_z70z):Same (ylKy (@z70z_ g)) (abody (yI9y g) Tryz.f54 yGVy 0 [] [.asis] g.N):=by intro args; unfold ylKy; split; exact .inr fun R k=>(by kernel_rfl); exact .inl fun R k=>rfl
theorem yHEy [Fuel]:Ok 54 (ylKy (@z70z _)):=yacy std (.cons yi2y (.cons ymey .nil)) ⟨rfl,rfl,by kernel_rfl,rfl,rfl,rfl⟩ (yEXy ylwy) (cuts0 (fun _=>rfl) (by kernel_rfl)) Tryz.func54 (by kernel_rfl) (by kernel_rfl)
abbrev ytjy:Type 1:=List G_Deed→{R:Type}→(List G_Deed→Option R)→Option R
def z74z_ (g:Nat) (a1:List G_Deed) {R:Type} (k0:List G_Deed→Option R):Option R :=
 k0 a1
noncomputable def z74z [Fuel]:ytjy:=@z74z_ NN
def ylMy (g:ytjy):Spec A:=fun args=>match args with | [.d (.sl 35 a1)]=>fun k=>g a1 (fun z0=>k (.fn 130 [.box [.d (.sl 35 z0)]]) [.undef]) | _=>fun _=>none
noncomputable def yEQy:Code:=(Tryz.f90.body).getD .skip
noncomputable def yJry (g:Nat):Env A:=mkE [] [(1,[0])] [] [] [] [] [] [] [] []
theorem yGGy (g:Nat):Same (ylMy (@z74z_ g)) (abody (yJry g) Tryz.f90 yEQy 1 [] [.asis] g):=by intro args; unfold ylMy; split; exact .inr fun R k=>(by kernel_rfl); exact .inl fun R k=>rfl
theorem yxDy [Fuel]:Ok 90 (ylMy (@z74z _)):=yacy std .nil ⟨rfl,rfl,by kernel_rfl,rfl,rfl,rfl⟩ (yGGy NN) (cuts0 (fun _=>rfl) (by kernel_rfl)) Tryz.func90 (by kernel_rfl) (by kernel_rfl)
abbrev yuty:Type 1:=List Int→{R:Type}→(List Int→Option R)→Option R
def z38z_L1 (g:Nat):Nat→Int→Int→List Int→{R:Type}→(List Int→Option R)→Option R
 | 0,_,_,_,_,_=>none
 | n + 1,v2,v3,v4,_,e0=>(bif (decide (v2 < v3)) then (inr v4 v3 (at_ v4 v3 fun x9=>(inr v4 v2 (at_ v4 v2 fun x10=>(inr v4 v2 (at_ v4 v2 fun x11=>(inr (set_ v4 v2 x9) v3 (at_ (set_ v4 v2 x9) v3 fun x12=>z38z_L1 g n (w64 (v2 + 1)) (w64 (v3 - 1)) (set_ (set_ v4 v2 x9) v3 x10) e0)))))))) else e0 v4)
def z38z_ (g:Nat) (a1:List Int) {R:Type} (k0:List Int→Option R):Option R :=
 (z38z_L1 g g 0 (w64 ((a1.length:Int) - 1)) a1 (fun e13=>k0 e13))
noncomputable def z38z [Fuel]:yuty:=@z38z_ NN
def ylZy (g:yuty):Spec A:=fun args=>match args with | [.arr 3 a1]=>fun k=>g a1 (fun z0=>k (.tup []) [.arr 3 z0]) | _=>fun _=>none
def yjUy:SSt:=mkSh 28 1 [(0,.own 3 0),(2,.int .i64),(3,.int .i64)] [(0,.row 3)]
def yejy (g:Nat) (n:Nat):LPT A:=fun ps=>match ps with | [.d (.int .i64 p1),.d (.int .i64 p2),.d (.sl 3 p3)]=>fun K=>z38z_L1 g n p1 p2 p3 (fun z0=>K (.exit 0) (mkSt 28 1 [(0,.own 3 0)] [(0,some (.row 3 z0))])) | _=>fun _=>none
noncomputable def yyfy:Code:=(Tryz.f91.body).getD .skip
noncomputable def yply (g:Nat):Env A:=mkE [] [] [(1,⟨[0,2,3],[],[0],[],[],[],[]⟩)] [(1,⟨[0],[],[0],[],[],[],[]⟩)] [(1,yaiy yjUy (yejy g g))] [] [] [] [] [0]
theorem yEMy [Fuel]:yajy (yply NN).C:=ct_of (P:=Tryz.prog) (T:=T) .nil (by kernel_rfl)
noncomputable def yoPy:Code:=sub [1,0,0] yyfy
theorem yAhy (g:Nat) (n:Nat):yamy (yply g) g yoPy yjUy (yejy g) n:=by intro ps; unfold yejy; split; exact .inr fun R K=>(by kernel_rfl); exact .inl fun R K=>rfl
theorem yyCy [Fuel]:yagy (yply NN) NN yoPy:=yaky yjUy (yejy NN) (by kernel_rfl) yEMy (cuts0 (fun _=>rfl) (by kernel_rfl)) (fun ps R K=>by unfold yejy; split <;> (try unfold z38z_L1) <;> rfl) (yAhy NN)
theorem yGsy (g:Nat):Same (ylZy (@z38z_ g)) (abody (yply g) Tryz.f91 yyfy 1 [0] [] g):=by intro args; unfold ylZy; split; exact .inr fun R k=>(by kernel_rfl); exact .inl fun R k=>rfl
theorem yxzy [Fuel]:Ok 91 (ylZy (@z38z _)):=yacy std .nil ⟨rfl,rfl,by kernel_rfl,rfl,rfl,rfl⟩ (yGsy NN) (cutsL (fun _=>rfl) (.cons yyCy .nil) (by kernel_rfl)) Tryz.func91 (by kernel_rfl) (by kernel_rfl)
abbrev yuEy:Type 1:=List G_Deed→Int→{R:Type}→(List Int→Option R)→Option R
structure C_z12z where
 N:Nat
 z74z:ytjy
 z38z:yuty
def z12z_L6 (g:C_z12z):Nat→List G_Deed→Int→List (G_net_own×Bool)→List Int→{R:Type}→(Int→List (G_net_own×Bool)→List Int→Option R)→Option R
 | 0,y0,y1,y2,y3,_,e0=>e0 y1 y2 y3
 | n + 1,l7,v4,v5,v6,_,e0=>(match l7[n]? with | none=>none | some x8=>(bif (decide (x8.f_At > v4)) then z12z_L6 g n l7 v4 v5 v6 e0 else (bif ((ya0y (⟨x8.f_Site,x8.f_No⟩:G_net_own) v5).getD false) then z12z_L6 g n l7 v4 v5 v6 e0 else (bif (decide ((v6.length + [(n:Int)].length) * 8≤yady)) then (bif (x8.f_Kind == 5) then z12z_L6 g n l7 v4 (yaEy (⟨x8.f_Of,x8.f_Other⟩:G_net_own) true v5) (v6 ++ [(n:Int)]) e0 else z12z_L6 g n l7 v4 v5 (v6 ++ [(n:Int)]) e0) else none))))
noncomputable def yfuy (g:C_z12z) (a1:List G_Deed) (a2:Int) {R:Type} (k0:List Int→Option R):Option R :=
 (g.z74z a1 (fun r3=>(bif decide (r3.length < 4611686018427387904) then (z12z_L6 g r3.length r3 a2 [] [] (fun e9 e10 e11=>(g.z38z e11 (fun r12=>k0 r12)))) else none)))
def ylcy (p:IV A×List (IV A)):Option ((List Int)):=match p with | (.arr 3 b1,[.undef,.undef])=>some (b1) | _=>none
def yc0y (q:(List Int)):IV A×List (IV A):=(.arr 3 q,[.undef,.undef])
theorem yDDy (p:IV A×List (IV A)) (q:(List Int)) (h:ylcy p = some q):p = yc0y q:=by unfold ylcy at h; split at h; (cases h; rfl); cases h
noncomputable def z12z_ (g:C_z12z) (a1:List G_Deed) (a2:Int) {R:Type} (k0:List Int→Option R):Option R :=
 (yfuy g a1 a2 (fun z0=>some (yc0y (z0)))).bind fun p=>(decK ylcy p (fun q=>k0 q) none)
noncomputable def ybBy [Fuel]:C_z12z:=⟨NN,@z74z _,@z38z _⟩
noncomputable def z12z [Fuel]:yuEy:=@z12z_ ybBy
def ydcy (g:yuEy):Spec A:=fun args=>match args with | [.d (.sl 35 a1),.d (.int .i64 a2)]=>fun k=>g a1 a2 (fun z0=>k (.arr 3 z0) [.undef,.undef]) | _=>fun _=>none
def ygGy:SSt:=mkSh 43 9 [(3,.ptr 0 0),(5,.ptr 2 0),(6,.ptr 3 0)] [(0,.box [.int .i64]),(1,.mp 67 4),(2,.box [.mp 1]),(3,.box [.own 3 5]),(5,.row 3)]
abbrev yb2y:Bw:=⟨130,26,35,3,4⟩
def yc8y (g:C_z12z) (n:Nat) (l:List (A (yb2y).tE)):LPT A:=fun ps=>match ps with | [.d (.int .i64 p1),.mp 67 4 p2,.d (.sl 3 p3)]=>fun K=>z12z_L6 g n l p1 p2 p3 (fun z0 z1 z2=>K .normal (mkSt 43 9 [(3,.ptr 0 0),(5,.ptr 2 0),(6,.ptr 3 0)] [(0,some (.box [.d (.int .i64 z0)])),(1,some (.mp 67 4 z1)),(2,some (.box [.mp 1])),(3,some (.box [.own 3 5])),(5,some (.row 3 z2))])) | _=>fun _=>none
noncomputable def yxmy:Code:=(Tryz.f55.body).getD .skip
noncomputable def yoay (g:C_z12z):Env A:=mkE [(90,ylMy g.z74z),(91,ylZy g.z38z)] [(3,[0]),(5,[2]),(6,[3]),(8,[6]),(9,[1]),(11,[4]),(29,[7]),(30,[8])] [(6,⟨[3,5,6],[],[0,1,2,3],[(3,0,3,5)],[],[],[]⟩)] [(6,⟨[3,5,6],[],[0,1,2,3],[],[],[],[]⟩)] [] [] [] [] [(91,0)] []
noncomputable def ywSy (g:C_z12z):Nat→Option (Nat→ybCy A (yb2y).tE):=fun i=>List.lookup i [(0,yB2y (yb2y).tE ygGy (yc8y g))]
def yqUy:Nat→List Nat:=fun i=>(List.lookup i [(0,[3,5,6])]).getD []
theorem ct_z12z [Fuel]:yajy (yoay ybBy).C:=ct_of (P:=Tryz.prog) (T:=T) (.cons yxDy (.cons yxzy .nil)) (by kernel_rfl)
noncomputable def ywsy:BwP:=(bwP Tryz.f130.body).get (by kernel_rfl)
theorem yv3y:BwFine Tryz.prog T yb2y:=⟨yE6y (fn:=Tryz.f130) Tryz.func130 ywsy (by kernel_rfl) (by kernel_rfl) (by kernel_rfl) (by kernel_rfl) (by kernel_rfl) (by kernel_rfl) (by kernel_rfl) (by kernel_rfl) (by kernel_rfl),yaHy (fn:=Tryz.f130) Tryz.func130 (by kernel_rfl) (by kernel_rfl),by kernel_rfl,by kernel_rfl,fun x=>by kernel_rfl⟩
noncomputable def yjIy:RfP:=(rfOf (sub [1,1,1,0] yxmy)).get (by kernel_rfl)
theorem yzWy (g:C_z12z):yxsy (yb2y).tE ygGy (yc8y g):=by intro xs ps; unfold yc8y; split; exact .inr fun R K=>(by kernel_rfl); exact .inl fun R K=>rfl
theorem yz5y (g:C_z12z) (i:Nat):ywCy (yoay g) g.N (yqUy (yjIy).B) yjIy (yb2y).tE ygGy (yc8y g) i:=by intro xs ps; unfold yc8y; split; exact .inr fun R K=>(by kernel_rfl); exact .inl fun R K=>rfl
theorem yzgy [Fuel]:BOk (yoay ybBy) yb2y (ywSy ybBy) yqUy NN yjIy:=yA5y ygGy (yc8y ybBy) (by kernel_rfl) (cuts0 (fun _=>rfl) (by kernel_rfl)) (cuts0 (fun _=>rfl) (by kernel_rfl)) (yzWy ybBy) (yz5y ybBy)
theorem yD4y (g:C_z12z):Same (ydcy (@yfuy g)) (ykVy (yoay g) yb2y (ywSy g) yqUy Tryz.f55 yxmy 9 [] [.arr 3] g.N):=by intro args; unfold ydcy; split; exact .inr fun R k=>(by kernel_rfl); exact .inl fun R k=>rfl
theorem yGcy (g:C_z12z):Whole (ydcy (@z12z_ g)) (ydcy (@yfuy g)):=by
 intro args R k res h
 unfold ydcy at h
 split at h
 ·obtain ⟨p,hp,h⟩:=Option.bind_eq_some_iff.1 h
  exact ⟨p,hp,(yxey (inj:=yc0y) yDDy (fun h=>(by cases h)) h)⟩
 ·cases h
theorem yG5y (g:C_z12z):yaNy (ydcy (@z12z_ g)):=by
 intro args R k
 unfold ydcy
 split
 ·unfold z12z_
  rw [Option.bind_assoc]
  exact congrArg (Option.bind _) (funext fun p=>(yw7y (inj:=yc0y) rfl))
 ·rfl
theorem ywNy [Fuel]:Ok 55 (ydcy (@z12z _)):=yIjy std (.cons yxDy (.cons yxzy .nil)) ⟨rfl,rfl,by kernel_rfl,rfl,rfl,rfl⟩ yv3y (yD4y ybBy) (yGcy ybBy) (yG5y ybBy) (cutsB (fun _=>rfl) .nil (.cons yzgy .nil) (by kernel_rfl) (by kernel_rfl)) Tryz.func55 (by kernel_rfl) (by kernel_rfl)
abbrev yljy:Type 1:=G_Contact→{R:Type}→(G_Contact→Option R)→Option R
def ysIy (g:Nat) (a1:G_Contact) {R:Type} (k0:G_Contact→Option R):Option R :=
 k0 (⟨a1.f_At,a1.f_Mode,a1.f_Band,a1.f_Call,0,0,[],[]⟩:G_Contact)
noncomputable def net_key [Fuel]:yljy:=@ysIy NN
def ygFy (g:yljy):Spec A:=fun args=>match args with | [.agg [.d (.int .i64 a1),.d (.int .i64 a2),.d (.str a3),.d (.str a4),.d (.int .i64 a5),.d (.int .i64 a6),.d (.str a7),.d (.str a8)]]=>fun k=>g ⟨a1,a2,a3,a4,a5,a6,a7,a8⟩ (fun z0=>k (.agg [.d (.int .i64 z0.f_At),.d (.int .i64 z0.f_Mode),.d (.str z0.f_Band),.d (.str z0.f_Call),.d (.int .i64 z0.f_Sent),.d (.int .i64 z0.f_Heard),.d (.str z0.f_Gave),.d (.str z0.f_Got)]) [.undef]) | _=>fun _=>none
noncomputable def yDKy:Code:=(Tryz.f104.body).getD .skip
noncomputable def yBiy (g:Nat):Env A:=mkE [] [(1,[0]),(2,[1])] [] [] [] [] [] [] [] []
theorem yy8y (g:Nat):Same (ygFy (@ysIy g)) (abody (yBiy g) Tryz.f104 yDKy 2 [] [.asis] g):=by intro args; unfold ygFy; split; exact .inr fun R k=>(by kernel_rfl); exact .inl fun R k=>rfl
theorem yoLy [Fuel]:Ok 104 (ygFy (@net_key _)):=yacy std .nil ⟨rfl,rfl,by kernel_rfl,rfl,rfl,rfl⟩ (yy8y NN) (cuts0 (fun _=>rfl) (by kernel_rfl)) Tryz.func104 (by kernel_rfl) (by kernel_rfl)
abbrev yspy:Type 1:=G_Contact→G_Contact→{R:Type}→(Int→Option R)→Option R
structure C_z41z where
 N:Nat
 z24z:yhhy
 z25z:yiBy
 strings_Compare:ya2y
def z41z_ (g:C_z41z) (a1 a2:G_Contact) {R:Type} (k0:Int→Option R):Option R :=
 (g.z25z a1.f_At a2.f_At (fun r3=>(g.strings_Compare a1.f_Call a2.f_Call (fun r4=>(g.strings_Compare a1.f_Band a2.f_Band (fun r5=>(g.z25z a1.f_Mode a2.f_Mode (fun r6=>(g.z24z [r3,r4,r5,r6] (fun r7=>k0 r7))))))))))
noncomputable def yoVy [Fuel]:C_z41z:=⟨NN,@z24z _,@z25z _,@strings_Compare _⟩
noncomputable def z41z [Fuel]:yspy:=@z41z_ yoVy
def yd5y (g:yspy):Spec A:=fun args=>match args with | [.agg [.d (.int .i64 a1),.d (.int .i64 a2),.d (.str a3),.d (.str a4),.d (.int .i64 a5),.d (.int .i64 a6),.d (.str a7),.d (.str a8)],.agg [.d (.int .i64 a9),.d (.int .i64 a10),.d (.str a11),.d (.str a12),.d (.int .i64 a13),.d (.int .i64 a14),.d (.str a15),.d (.str a16)]]=>fun k=>g ⟨a1,a2,a3,a4,a5,a6,a7,a8⟩ ⟨a9,a10,a11,a12,a13,a14,a15,a16⟩ (fun z0=>k (.d (.int .i64 z0)) [.undef,.undef]) | _=>fun _=>none
noncomputable def yuyy:Code:=(Tryz.f106.body).getD .skip
noncomputable def yImy (g:C_z41z):Env A:=mkE [(63,ybEy g.z24z),(64,ybNy g.z25z),(65,yaBy g.strings_Compare)] [(2,[0]),(3,[1]),(25,[2])] [] [] [] [] [] [] [] []
theorem yFhy (g:C_z41z):Same (yd5y (@z41z_ g)) (abody (yImy g) Tryz.f106 yuyy 3 [] [.asis] g.N):=by intro args; unfold yd5y; split; exact .inr fun R k=>(by kernel_rfl); exact .inl fun R k=>rfl
theorem yxiy [Fuel]:Ok 106 (yd5y (@z41z _)):=yacy std (.cons ygKy (.cons ymPy (.cons ya9y .nil))) ⟨rfl,rfl,by kernel_rfl,rfl,rfl,rfl⟩ (yFhy yoVy) (cuts0 (fun _=>rfl) (by kernel_rfl)) Tryz.func106 (by kernel_rfl) (by kernel_rfl)
noncomputable def yECy (g:C_z41z):Env A:=mkED [(63,ybEy g.z24z),(64,ybNy g.z25z),(65,yaBy g.strings_Compare)] [(2,[0]),(3,[1]),(25,[2])] [] [] [] [] [] [] [] []
theorem yCuy (g:C_z41z):Same (yd5y (@z41z_ g)) (abody (yECy g) Tryz.f106 yuyy 3 [] [.asis] g.N):=by intro args; unfold yd5y; split; exact .inr fun R k=>(by kernel_rfl); exact .inl fun R k=>rfl
theorem yvny [Fuel]:OkD 106 (yd5y (@z41z _)):=yacy stdD (.cons ynNy (.cons ynVy (.cons ycNy .nil))) ⟨rfl,rfl,by kernel_rfl,rfl,rfl,rfl⟩ (yCuy yoVy) (cuts0 (fun _=>rfl) (by kernel_rfl)) Tryz.func106 (by kernel_rfl) (by kernel_rfl)
abbrev yt8y:Type 1:=List G_Contact→{R:Type}→(List G_Contact→Option R)→Option R
noncomputable def z32z [Fuel]:yt8y:=@ybwy G_Contact (@z41z _)
def yiQy (g:yt8y):Spec A:=fun args=>match args with | [.arr 33 a1,.fn 106 []]=>fun k=>g a1 (fun z=>k (.tup []) [.arr 33 z,.fn 106 []]) | _=>fun _=>none
theorem yxRy [Fuel] (xs:List (A 33)) (R:Type) (k:IV A→List (IV A)→Option R):yiQy (@z32z _) [.arr 33 xs,.fn 106 []] k = ybwy (α:=A 33) (@z41z _) xs (fun z=>k (.tup []) [.arr 33 z,.fn 106 []]):=by kernel_rfl
theorem ywWy [Fuel] (args:List (IV A)) (R:Type) (k:IV A→List (IV A)→Option R) (h:∀ xs:List (A 33),args ≠ [.arr 33 xs,.fn 106 []]):yiQy (@z32z _) args k = none:=by unfold yiQy; split; exact absurd rfl (h _); rfl
theorem yG4y [Fuel] (x y:A 33) (R:Type) (k:Int→Option R):yiyy T (yd5y (@z41z _)) 33 x y k = @z41z _ x y R k:=by kernel_rfl
theorem yEoy (x:G_Contact):(ymLy x).all scal = true:=rfl
theorem yw8y [Fuel]:Ok 105 (yiQy (@z32z _)):=⟨yfLy (tyOk Tryz.prog) (e:=33) Tryz.sortf105 Tryz.isAgg33 Tryz.sizeOf33 (fun x d hd=>List.all_eq_true.1 (yEoy x) d hd) yG4y yvny.fs yvny.en yxRy ywWy,yjLy (e:=33) yxRy ywWy,yaHy (fn:=Tryz.f105) Tryz.func105 (by kernel_rfl) (by kernel_rfl)⟩
end Go.Am
