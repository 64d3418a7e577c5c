/- The functions of the program as Lean functions, each shown to be what the code computes, part 14. No condition: lemmas for the claim. -/
import Derived.Test.YtfngnnmdgfkenaaGreatDoorF0
import Derived.Test.YtfngnnmdgfkenaaGreatDoorFSh
import Derived.Test.YtfngnnmdgfkenaaGreatDoorF9
import Derived.Test.YtfngnnmdgfkenaaGreatDoorF13
set_option linter.unusedVariables false
set_option maxRecDepth 100000
namespace Go.Am
open Go Go.Proofs
abbrev yzay:Type 1:=List G_Deed→Int→{R:Type}→(List Int→Option R)→Option R
structure C_z36z where
 N:Nat
 z58z:yrTy
 z103z:yvny
def z36z_L6 (g:C_z36z):Nat→List G_Deed→Int→List (G_net_own×Bool)→List Int→{R:Type}→(Int→List (G_net_own×Bool)→List Int→Option R)→Option R
 | 0,y0,y1,y2,y3,_,e0=>e0 y1 y2 y3
 | n + 1,l7,v4,v5,v6,_,e0=>(match l7[n]? with | none=>none | some x8=>(bif (decide (x8.f_At > v4)) then z36z_L6 g n l7 v4 v5 v6 e0 else (bif ((ybVy (⟨x8.f_Site,x8.f_No⟩:G_net_own) v5).getD false) then z36z_L6 g n l7 v4 v5 v6 e0 else (bif (decide ((v6.length + [(n:Int)].length) * 8≤yagy)) then (bif (x8.f_Kind == 5) then z36z_L6 g n l7 v4 (ya4y (⟨x8.f_Of,x8.f_Other⟩:G_net_own) true v5) (v6 ++ [(n:Int)]) e0 else z36z_L6 g n l7 v4 v5 (v6 ++ [(n:Int)]) e0) else none))))
noncomputable def ylzy (g:C_z36z) (a1:List G_Deed) (a2:Int) {R:Type} (k0:List Int→Option R):Option R :=
 (g.z103z a1 (fun r3=>(bif decide (r3.length < 4611686018427387904) then (z36z_L6 g r3.length r3 a2 [] [] (fun e9 e10 e11=>(g.z58z e11 (fun r12=>k0 r12)))) else none)))
def ynEy (p:IV A×List (IV A)):Option ((List Int)):=match p with | (.arr 3 b1,[.undef,.undef])=>some (b1) | _=>none
def yeZy (q:(List Int)):IV A×List (IV A):=(.arr 3 q,[.undef,.undef])
theorem yKky (p:IV A×List (IV A)) (q:(List Int)) (h:ynEy p = some q):p = yeZy q:=by unfold ynEy at h; split at h; (cases h; rfl); cases h
noncomputable def z36z_ (g:C_z36z) (a1:List G_Deed) (a2:Int) {R:Type} (k0:List Int→Option R):Option R :=
 (ylzy g a1 a2 (fun z0=>some (yeZy (z0)))).bind fun p=>(decK ynEy p (fun q=>k0 q) none)
noncomputable def ydzy [Fuel]:C_z36z:=⟨NN,@z58z _,@z103z _⟩
noncomputable def z36z [Fuel]:yzay:=@z36z_ ydzy
def ydVy (g:yzay):Spec A:=fun args=>match args with | [.d (.sl 104 a1),.d (.int .i64 a2)]=>fun k=>g a1 a2 (fun z0=>k (.arr 3 z0) [.undef,.undef]) | _=>fun _=>none
def yihy:SSt:=mkSh 43 9 [(3,.ptr 0 0),(5,.ptr 2 0),(6,.ptr 3 0)] [(0,.box [.int .i64]),(1,.mp 223 4),(2,.box [.mp 1]),(3,.box [.own 3 5]),(5,.row 3)]
abbrev ycpy:Bw:=⟨229,105,104,3,4⟩
def yd0y (g:C_z36z) (n:Nat) (l:List (A (ycpy).tE)):LPT A:=fun ps=>match ps with | [.d (.int .i64 p1),.mp 223 4 p2,.d (.sl 3 p3)]=>fun K=>z36z_L6 g n l p1 p2 p3 (fun z0 z1 z2=>K .normal (mkSt 43 9 [(3,.ptr 0 0),(5,.ptr 2 0),(6,.ptr 3 0)] [(0,some (.box [.d (.int .i64 z0)])),(1,some (.mp 223 4 z1)),(2,some (.box [.mp 1])),(3,some (.box [.own 3 5])),(5,some (.row 3 z2))])) | _=>fun _=>none
noncomputable def yxKy:Code:=(Tryz.f171.body).getD .skip
noncomputable def yr8y (g:C_z36z):Env A:=mkE [(81,ykky g.z58z),(211,yluy g.z103z)] [(3,[0]),(5,[2]),(6,[3]),(8,[6]),(9,[1]),(11,[4]),(29,[7]),(30,[8])] [(6,⟨[3,5,6],[],[0,1,2,3],[(3,0,3,5)],[],[],[]⟩)] [(6,⟨[3,5,6],[],[0,1,2,3],[],[],[],[]⟩)] [] [] [] [] [(81,0)] []
noncomputable def yDHy (g:C_z36z):Nat→Option (Nat→ybIy A (ycpy).tE):=fun i=>List.lookup i [(0,yzFy (ycpy).tE yihy (yd0y g))]
def yuTy:Nat→List Nat:=fun i=>(List.lookup i [(0,[3,5,6])]).getD []
theorem ct_z36z [Fuel]:yahy (yr8y ydzy).C:=ct_of (P:=Tryz.prog) (T:=T) (.cons yppy (.cons yxIy .nil)) (by kernel_rfl)
noncomputable def yBgy:BwP:=(bwP Tryz.f229.body).get (by kernel_rfl)
theorem yBZy:BwFine Tryz.prog T ycpy:=⟨yDiy (fn:=Tryz.f229) Tryz.func229 yBgy (by kernel_rfl) (by kernel_rfl) (by kernel_rfl) (by kernel_rfl) (by kernel_rfl) (by kernel_rfl) (by kernel_rfl) (by kernel_rfl) (by kernel_rfl),yaOy (fn:=Tryz.f229) Tryz.func229 (by kernel_rfl) (by kernel_rfl),by kernel_rfl,by kernel_rfl,fun x=>by kernel_rfl⟩
noncomputable def ylVy:RfP:=(rfOf (sub [1,1,1,0] yxKy)).get (by kernel_rfl)
theorem yGry (g:C_z36z):yvly (ycpy).tE yihy (yd0y g):=by intro xs ps; unfold yd0y; split; exact .inr fun R K=>(by kernel_rfl); exact .inl fun R K=>rfl
theorem yIsy (g:C_z36z) (i:Nat):yuiy (yr8y g) g.N (yuTy (ylVy).B) ylVy (ycpy).tE yihy (yd0y g) i:=by intro xs ps; unfold yd0y; split; exact .inr fun R K=>(by kernel_rfl); exact .inl fun R K=>rfl
theorem yE4y [Fuel]:BOk (yr8y ydzy) ycpy (yDHy ydzy) yuTy NN ylVy:=ywgy yihy (yd0y ydzy) (by kernel_rfl) (cuts0 (fun _=>rfl) (by kernel_rfl)) (cuts0 (fun _=>rfl) (by kernel_rfl)) (yGry ydzy) (yIsy ydzy)
theorem yPsy (g:C_z36z):Same (ydVy (@ylzy g)) (ykYy (yr8y g) ycpy (yDHy g) yuTy Tryz.f171 yxKy 9 [] [.arr 3] g.N):=by intro args; unfold ydVy; split; exact .inr fun R k=>(by kernel_rfl); exact .inl fun R k=>rfl
theorem yQny (g:C_z36z):Whole (ydVy (@z36z_ g)) (ydVy (@ylzy g)):=by
 intro args R k res h
 unfold ydVy at h
 split at h
 ·obtain ⟨p,hp,h⟩:=Option.bind_eq_some_iff.1 h
  exact ⟨p,hp,(yuwy (inj:=yeZy) yKky (fun h=>(by cases h)) h)⟩
 ·cases h
theorem yMAy (g:C_z36z):yaIy (ydVy (@z36z_ g)):=by
 intro args R k
 unfold ydVy
 split
 ·unfold z36z_
  rw [Option.bind_assoc]
  exact congrArg (Option.bind _) (funext fun p=>(yvry (inj:=yeZy) rfl))
 ·rfl
theorem yCKy [Fuel]:Ok 171 (ydVy (@z36z _)):=yGGy std (.cons yppy (.cons yxIy .nil)) ⟨rfl,rfl,by kernel_rfl,rfl,rfl,rfl⟩ yBZy (yPsy ydzy) (yQny ydzy) (yMAy ydzy) (cutsB (fun _=>rfl) .nil (.cons yE4y .nil) (by kernel_rfl) (by kernel_rfl)) Tryz.func171 (by kernel_rfl) (by kernel_rfl)
abbrev ynsy:Type 1:=G_Contact→{R:Type}→(G_Contact→Option R)→Option R
def yxHy (g:Nat) (a1:G_Contact) {R:Type} (k0:G_Contact→Option R):Option R :=
 k0 (⟨a1.f_At,a1.f_Mode,a1.f_Band,a1.f_Call,0,0,[],[]⟩:G_Contact)
noncomputable def net_key [Fuel]:ynsy:=@yxHy NN
def yify (g:ynsy):Spec A:=fun args=>match args with | [.agg [.d (.int .i64 a1),.d (.int .i64 a2),.d (.str a3),.d (.str a4),.d (.int .i64 a5),.d (.int .i64 a6),.d (.str a7),.d (.str a8)]]=>fun k=>g ⟨a1,a2,a3,a4,a5,a6,a7,a8⟩ (fun z0=>k (.agg [.d (.int .i64 z0.f_At),.d (.int .i64 z0.f_Mode),.d (.str z0.f_Band),.d (.str z0.f_Call),.d (.int .i64 z0.f_Sent),.d (.int .i64 z0.f_Heard),.d (.str z0.f_Gave),.d (.str z0.f_Got)]) [.undef]) | _=>fun _=>none
noncomputable def yJ7y:Code:=(Tryz.f172.body).getD .skip
noncomputable def yIFy (g:Nat):Env A:=mkE [] [(1,[0]),(2,[1])] [] [] [] [] [] [] [] []
theorem yFsy (g:Nat):Same (yify (@yxHy g)) (abody (yIFy g) Tryz.f172 yJ7y 2 [] [.asis] g):=by intro args; unfold yify; split; exact .inr fun R k=>(by kernel_rfl); exact .inl fun R k=>rfl
theorem ysay [Fuel]:Ok 172 (yify (@net_key _)):=yaay std .nil ⟨rfl,rfl,by kernel_rfl,rfl,rfl,rfl⟩ (yFsy NN) (cuts0 (fun _=>rfl) (by kernel_rfl)) Tryz.func172 (by kernel_rfl) (by kernel_rfl)
abbrev yyzy:Type 1:=List G_Contact→{R:Type}→(List G_Contact→Option R)→Option R
noncomputable def z61z [Fuel]:yyzy:=@ybwy G_Contact (@z76z _)
def ykoy (g:yyzy):Spec A:=fun args=>match args with | [.arr 89 a1,.fn 129 []]=>fun k=>g a1 (fun z=>k (.tup []) [.arr 89 z,.fn 129 []]) | _=>fun _=>none
theorem yDZy [Fuel] (xs:List (A 89)) (R:Type) (k:IV A→List (IV A)→Option R):ykoy (@z61z _) [.arr 89 xs,.fn 129 []] k = ybwy (α:=A 89) (@z76z _) xs (fun z=>k (.tup []) [.arr 89 z,.fn 129 []]):=by kernel_rfl
theorem yDXy [Fuel] (args:List (IV A)) (R:Type) (k:IV A→List (IV A)→Option R) (h:∀ xs:List (A 89),args ≠ [.arr 89 xs,.fn 129 []]):ykoy (@z61z _) args k = none:=by unfold ykoy; split; exact absurd rfl (h _); rfl
theorem yPJy [Fuel] (x y:A 89) (R:Type) (k:Int→Option R):ykFy T (yeNy (@z76z _)) 89 x y k = @z76z _ x y R k:=by kernel_rfl
theorem yLzy (x:G_Contact):(ypgy x).all scal = true:=rfl
theorem yDGy [Fuel]:Ok 173 (ykoy (@z61z _)):=⟨yhdy (tyOk Tryz.prog) (e:=89) Tryz.sortf173 Tryz.isAgg89 Tryz.sizeOf89 (fun x d hd=>List.all_eq_true.1 (yLzy x) d hd) yPJy yy8y.fs yy8y.en yDZy yDXy,ymay (e:=89) yDZy yDXy,yaOy (fn:=Tryz.f173) Tryz.func173 (by kernel_rfl) (by kernel_rfl)⟩
abbrev yxry:Type 1:=List G_Deed→Int→{R:Type}→(Int→Option R)→(List G_Deed→List G_Contact→List (List UInt8)→List Int→List (G_net_own×Bool)→Int→Option R)→Option R
structure C_z50z where
 N:Nat
 z36z:yzay
 net_key:ynsy
 z61z:yyzy
def z50z_L4 (g:C_z50z):Nat→List G_Deed→Int→Int→List (G_net_own×Bool)→List (G_Contact×G_Deed)→List Int→List G_Deed→List G_Contact→List (List UInt8)→List Int→{R:Type}→(List (G_net_own×Bool)→List (G_Contact×G_Deed)→List G_Deed→List G_Contact→List (List UInt8)→List Int→Option R)→Option R
 | 0,_,_,_,_,_,_,_,_,_,_,_,_=>none
 | n + 1,v4,v5,v6,v7,v8,v9,v10,v11,v12,v13,_,e0=>(bif (decide (v6 < v5)) then (inr v9 v6 (at_ v9 v6 fun x26=>(get_ v4 x26 fun x27=>(bif (decide ((v10.length + [x27].length) * 176≤yagy)) then (bif (x27.f_Kind == 3) then (bif (x27.f_Kind != 1) then z50z_L4 g n v4 v5 (w64 (v6 + 1)) (ya4y (⟨x27.f_Site,x27.f_Contact.f_Sent⟩:G_net_own) true v7) v8 v9 (v10 ++ [x27]) v11 v12 v13 e0 else (g.net_key x27.f_Contact (fun r28=>(bif (yaKy r28 v8).isSome then (bif (decide ((v13.length + [x26].length) * 8≤yagy)) then z50z_L4 g n v4 v5 (w64 (v6 + 1)) (ya4y (⟨x27.f_Site,x27.f_Contact.f_Sent⟩:G_net_own) true v7) v8 v9 (v10 ++ [x27]) v11 v12 (v13 ++ [x26]) e0 else none) else (g.net_key x27.f_Contact (fun r29=>(bif (decide ((v11.length + [x27.f_Contact].length) * 96≤yagy)) then z50z_L4 g n v4 v5 (w64 (v6 + 1)) (ya4y (⟨x27.f_Site,x27.f_Contact.f_Sent⟩:G_net_own) true v7) (ya5y r29 x27 v8) v9 (v10 ++ [x27]) (v11 ++ [x27.f_Contact]) v12 v13 e0 else none))))))) else (bif (x27.f_Kind == 4) then (bif (x27.f_Kind == 4) then (bif (x27.f_Kind != 1) then z50z_L4 g n v4 v5 (w64 (v6 + 1)) (yaRy (⟨x27.f_Site,x27.f_Contact.f_Sent⟩:G_net_own) v7) v8 v9 (v10 ++ [x27]) v11 v12 v13 e0 else (g.net_key x27.f_Contact (fun r30=>(bif (yaKy r30 v8).isSome then (bif (decide ((v13.length + [x26].length) * 8≤yagy)) then z50z_L4 g n v4 v5 (w64 (v6 + 1)) (yaRy (⟨x27.f_Site,x27.f_Contact.f_Sent⟩:G_net_own) v7) v8 v9 (v10 ++ [x27]) v11 v12 (v13 ++ [x26]) e0 else none) else (g.net_key x27.f_Contact (fun r31=>(bif (decide ((v11.length + [x27.f_Contact].length) * 96≤yagy)) then z50z_L4 g n v4 v5 (w64 (v6 + 1)) (yaRy (⟨x27.f_Site,x27.f_Contact.f_Sent⟩:G_net_own) v7) (ya5y r31 x27 v8) v9 (v10 ++ [x27]) (v11 ++ [x27.f_Contact]) v12 v13 e0 else none))))))) else (bif (x27.f_Kind != 1) then z50z_L4 g n v4 v5 (w64 (v6 + 1)) v7 v8 v9 (v10 ++ [x27]) v11 v12 v13 e0 else (g.net_key x27.f_Contact (fun r32=>(bif (yaKy r32 v8).isSome then (bif (decide ((v13.length + [x26].length) * 8≤yagy)) then z50z_L4 g n v4 v5 (w64 (v6 + 1)) v7 v8 v9 (v10 ++ [x27]) v11 v12 (v13 ++ [x26]) e0 else none) else (g.net_key x27.f_Contact (fun r33=>(bif (decide ((v11.length + [x27.f_Contact].length) * 96≤yagy)) then z50z_L4 g n v4 v5 (w64 (v6 + 1)) v7 (ya5y r33 x27 v8) v9 (v10 ++ [x27]) (v11 ++ [x27.f_Contact]) v12 v13 e0 else none)))))))) else (bif (x27.f_Kind == 1) then (bif (x27.f_Kind != 1) then z50z_L4 g n v4 v5 (w64 (v6 + 1)) (yaRy (⟨x27.f_Site,x27.f_Contact.f_Sent⟩:G_net_own) v7) v8 v9 (v10 ++ [x27]) v11 v12 v13 e0 else (g.net_key x27.f_Contact (fun r34=>(bif (yaKy r34 v8).isSome then (bif (decide ((v13.length + [x26].length) * 8≤yagy)) then z50z_L4 g n v4 v5 (w64 (v6 + 1)) (yaRy (⟨x27.f_Site,x27.f_Contact.f_Sent⟩:G_net_own) v7) v8 v9 (v10 ++ [x27]) v11 v12 (v13 ++ [x26]) e0 else none) else (g.net_key x27.f_Contact (fun r35=>(bif (decide ((v11.length + [x27.f_Contact].length) * 96≤yagy)) then z50z_L4 g n v4 v5 (w64 (v6 + 1)) (yaRy (⟨x27.f_Site,x27.f_Contact.f_Sent⟩:G_net_own) v7) (ya5y r35 x27 v8) v9 (v10 ++ [x27]) (v11 ++ [x27.f_Contact]) v12 v13 e0 else none))))))) else (bif (x27.f_Kind != 1) then z50z_L4 g n v4 v5 (w64 (v6 + 1)) v7 v8 v9 (v10 ++ [x27]) v11 v12 v13 e0 else (g.net_key x27.f_Contact (fun r36=>(bif (yaKy r36 v8).isSome then (bif (decide ((v13.length + [x26].length) * 8≤yagy)) then z50z_L4 g n v4 v5 (w64 (v6 + 1)) v7 v8 v9 (v10 ++ [x27]) v11 v12 (v13 ++ [x26]) e0 else none) else (g.net_key x27.f_Contact (fun r37=>(bif (decide ((v11.length + [x27.f_Contact].length) * 96≤yagy)) then z50z_L4 g n v4 v5 (w64 (v6 + 1)) v7 (ya5y r37 x27 v8) v9 (v10 ++ [x27]) (v11 ++ [x27.f_Contact]) v12 v13 e0 else none)))))))))) else none)))) else e0 v7 v8 v10 v11 v12 v13)
def z50z_L25 (g:C_z50z):Nat→Int→Int→List (G_net_own×Bool)→List (G_Contact×G_Deed)→List G_Deed→List G_Contact→List (List UInt8)→List Int→{R:Type}→(List (G_net_own×Bool)→List G_Deed→List G_Contact→List (List UInt8)→List Int→Option R)→Option R
 | 0,_,_,_,_,_,_,_,_,_,_=>none
 | n + 1,v45,v46,v47,v48,v49,v50,v51,v52,_,e0=>(bif (decide (v46 < v45)) then (inr v50 v46 (at_ v50 v46 fun x55=>(g.net_key x55 (fun r56=>(bif (decide ((v51.length + [((yaKy r56 v48).getD (⟨[],0,0,0,(⟨0,0,[],[],0,0,[],[]⟩:G_Contact),[],[],0⟩:G_Deed)).f_Site].length) * 16≤yagy)) then z50z_L25 g n v45 (w64 (v46 + 1)) v47 v48 v49 v50 (v51 ++ [((yaKy r56 v48).getD (⟨[],0,0,0,(⟨0,0,[],[],0,0,[],[]⟩:G_Contact),[],[],0⟩:G_Deed)).f_Site]) v52 e0 else none))))) else e0 v47 v49 v50 v51 v52)
def z50z_ (g:C_z50z) (a1:List G_Deed) (a2:Int) {R:Type} (k0:Int→Option R) (k1:List G_Deed→List G_Contact→List (List UInt8)→List Int→List (G_net_own×Bool)→Int→Option R):Option R :=
 (g.z36z a1 a2 (fun r3=>(z50z_L4 g g.N a1 (r3.length:Int) 0 [] [] r3 [] [] [] [] (fun e38 e39 e40 e41 e42 e43=>(bif (decide ((e41.length:Int) > 2000)) then k0 2 else (g.z61z e41 (fun r44=>(z50z_L25 g g.N (r44.length:Int) 0 e38 e39 e40 r44 e42 e43 (fun e57 e58 e59 e60 e61=>k1 e58 e59 e60 e61 e57 0)))))))))
noncomputable def yb4y [Fuel]:C_z50z:=⟨NN,@z36z _,@net_key _,@z61z _⟩
noncomputable def z50z [Fuel]:yxry:=@z50z_ yb4y
def ypDy (g:yxry):Spec A:=fun args=>match args with | [.d (.sl 104 a1),.d (.int .i64 a2)]=>fun k=>g a1 a2 (fun z0=>k (.tup [.d (.lit (.pointer none)),.d (.int .i64 z0)]) [.undef,.undef]) (fun z0 z1 z2 z3 z4 z5=>k (.tup [.box [.arr 104 z0,.arr 89 z1,.arr 9 z2,.arr 3 z3,.mp 223 4 z4],.d (.int .i64 z5)]) [.undef,.undef]) | _=>fun _=>none
def ymly:SSt:=mkSh 143 23 [(0,.sl 104),(6,.ptr 1 0),(7,.mp 2),(21,.own 3 3),(22,.int .i64),(23,.int .i64)] [(0,.mp 223 4),(1,.box [.own 104 4,.own 89 5,.own 9 6,.own 3 7,.mp 0]),(2,.mp 89 104),(3,.row 3),(4,.row 104),(5,.row 89),(6,.row 9),(7,.row 3)]
def yfNy (g:C_z50z) (n:Nat):LPT A:=fun ps=>match ps with | [.d (.sl 104 p1),.d (.int .i64 p2),.d (.int .i64 p3),.mp 223 4 p4,.mp 89 104 p5,.d (.sl 3 p6),.d (.sl 104 p7),.d (.sl 89 p8),.d (.sl 9 p9),.d (.sl 3 p10)]=>fun K=>z50z_L4 g n p1 p2 p3 p4 p5 p6 p7 p8 p9 p10 (fun z0 z1 z2 z3 z4 z5=>K (.exit 0) (mkSt 143 23 [(6,.ptr 1 0),(7,.mp 2)] [(0,some (.mp 223 4 z0)),(1,some (.box [.own 104 4,.own 89 5,.own 9 6,.own 3 7,.mp 0])),(2,some (.mp 89 104 z1)),(4,some (.row 104 z2)),(5,some (.row 89 z3)),(6,some (.row 9 z4)),(7,some (.row 3 z5))])) | _=>fun _=>none
def yj1y:SSt:=mkSh 143 23 [(6,.ptr 1 0),(7,.mp 2),(121,.own 89 17),(122,.int .i64),(123,.int .i64)] [(0,.mp 223 4),(1,.box [.own 104 16,.own 89 17,.own 9 18,.own 3 19,.mp 0]),(2,.mp 89 104),(16,.row 104),(17,.row 89),(18,.row 9),(19,.row 3)]
def yeay (g:C_z50z) (n:Nat):LPT A:=fun ps=>match ps with | [.d (.int .i64 p1),.d (.int .i64 p2),.mp 223 4 p3,.mp 89 104 p4,.d (.sl 104 p5),.d (.sl 89 p6),.d (.sl 9 p7),.d (.sl 3 p8)]=>fun K=>z50z_L25 g n p1 p2 p3 p4 p5 p6 p7 p8 (fun z0 z1 z2 z3 z4=>K (.exit 3) (mkSt 143 23 [(6,.ptr 1 0)] [(0,some (.mp 223 4 z0)),(1,some (.box [.own 104 16,.own 89 17,.own 9 18,.own 3 19,.mp 0])),(16,some (.row 104 z1)),(17,some (.row 89 z2)),(18,some (.row 9 z3)),(19,some (.row 3 z4))])) | _=>fun _=>none
noncomputable def yqMy:Code:=(Tryz.f136.body).getD .skip
noncomputable def ykgy (g:C_z50z):Env A:=mkE [(171,ydVy g.z36z),(172,yify g.net_key),(173,ykoy g.z61z)] [(10,[8]),(11,[11]),(14,[20]),(15,[0]),(17,[1]),(18,[2]),(21,[3]),(37,[9]),(38,[10]),(86,[12]),(87,[13]),(102,[14]),(103,[15]),(137,[21]),(138,[22])] [(4,⟨[0,6,7,21,22,23],[],[0,1,2,3],[(1,0,104,4),(1,1,89,5),(1,2,9,6),(1,3,3,7)],[],[],[]⟩),(25,⟨[6,7,121,122,123],[],[0,1,2],[(1,0,104,16),(1,1,89,17),(1,2,9,18),(1,3,3,19)],[],[],[]⟩)] [(4,⟨[6,7],[],[0,1,2,4,5,6,7],[],[],[],[]⟩),(25,⟨[6],[],[0,1,16,17,18,19],[],[],[],[]⟩)] [(4,yady ymly (yfNy g g.N)),(25,yady yj1y (yeay g g.N))] [] [] [] [(173,0)] []
theorem yEly [Fuel]:yahy (ykgy yb4y).C:=ct_of (P:=Tryz.prog) (T:=T) (.cons yCKy (.cons ysay (.cons yDGy .nil))) (by kernel_rfl)
noncomputable def yrNy:Code:=sub [1,1,1,0,1,0,0] yqMy
theorem yH0y (g:C_z50z) (n:Nat):yaiy (ykgy g) g.N yrNy ymly (yfNy g) n:=by intro ps; unfold yfNy; split; exact .inr fun R K=>(by kernel_rfl); exact .inl fun R K=>rfl
theorem yF1y [Fuel]:yaby (ykgy yb4y) NN yrNy:=yacy ymly (yfNy yb4y) (by kernel_rfl) yEly (cuts0 (fun _=>rfl) (by kernel_rfl)) (fun ps R K=>by unfold yfNy; split <;> (try unfold z50z_L4) <;> rfl) (yH0y yb4y)
noncomputable def yp8y:Code:=sub [1,1,1,1,1,1,0,1,0,0] yqMy
theorem yEVy (g:C_z50z) (n:Nat):yaiy (ykgy g) g.N yp8y yj1y (yeay g) n:=by intro ps; unfold yeay; split; exact .inr fun R K=>(by kernel_rfl); exact .inl fun R K=>rfl
theorem yCcy [Fuel]:yaby (ykgy yb4y) NN yp8y:=yacy yj1y (yeay yb4y) (by kernel_rfl) yEly (cuts0 (fun _=>rfl) (by kernel_rfl)) (fun ps R K=>by unfold yeay; split <;> (try unfold z50z_L25) <;> rfl) (yEVy yb4y)
theorem yMWy (g:C_z50z):Same (ypDy (@z50z_ g)) (abody (ykgy g) Tryz.f136 yqMy 23 [] [.asis,.asis] g.N):=by intro args; unfold ypDy; split; exact .inr fun R k=>(by kernel_rfl); exact .inl fun R k=>rfl
theorem yMjy [Fuel]:Ok 136 (ypDy (@z50z _)):=yaay std (.cons yCKy (.cons ysay (.cons yDGy .nil))) ⟨rfl,rfl,by kernel_rfl,rfl,rfl,rfl⟩ (yMWy yb4y) (cutsL (fun _=>rfl) (.cons yF1y (.cons yCcy .nil)) (by kernel_rfl)) Tryz.func136 (by kernel_rfl) (by kernel_rfl)
abbrev yuhy:Type 1:=List G_Deed→Int→{R:Type}→(Int→Option R)→(List G_Deed→List G_Contact→List (List UInt8)→List Int→List (G_net_own×Bool)→Int→Option R)→Option R
structure C_z106z where
 N:Nat
 z110z:yuWy
 z50z:yxry
def z106z_ (g:C_z106z) (a1:List G_Deed) (a2:Int) {R:Type} (k0:Int→Option R) (k1:List G_Deed→List G_Contact→List (List UInt8)→List Int→List (G_net_own×Bool)→Int→Option R):Option R :=
 (g.z110z a1 a2 (fun r3=>(bif (r3 != 0) then k0 r3 else (g.z50z a1 a2 (fun r4=>k0 r4) (fun r5 r6 r7 r8 r9 r10=>k1 r5 r6 r7 r8 r9 r10)))))
noncomputable def ypTy [Fuel]:C_z106z:=⟨NN,@z110z _,@z50z _⟩
noncomputable def z106z [Fuel]:yuhy:=@z106z_ ypTy
def yl8y (g:yuhy):Spec A:=fun args=>match args with | [.d (.sl 104 a1),.d (.int .i64 a2)]=>fun k=>g a1 a2 (fun z0=>k (.tup [.d (.lit (.pointer none)),.d (.int .i64 z0)]) [.undef,.undef]) (fun z0 z1 z2 z3 z4 z5=>k (.tup [.box [.arr 104 z0,.arr 89 z1,.arr 9 z2,.arr 3 z3,.mp 223 4 z4],.d (.int .i64 z5)]) [.undef,.undef]) | _=>fun _=>none
noncomputable def yPty:Code:=(Tryz.f92.body).getD .skip
noncomputable def yN9y (g:C_z106z):Env A:=mkE [(135,ymFy g.z110z),(136,ypDy g.z50z)] [(15,[0,1,2,3,4,5])] [] [] [] [] [] [] [] []
theorem yJEy (g:C_z106z):Same (yl8y (@z106z_ g)) (abody (yN9y g) Tryz.f92 yPty 6 [] [.asis,.asis] g.N):=by intro args; unfold yl8y; split; exact .inr fun R k=>(by kernel_rfl); exact .inl fun R k=>rfl
theorem yJTy [Fuel]:Ok 92 (yl8y (@z106z _)):=yaay std (.cons yKHy (.cons yMjy .nil)) ⟨rfl,rfl,by kernel_rfl,rfl,rfl,rfl⟩ (yJEy ypTy) (cuts0 (fun _=>rfl) (by kernel_rfl)) Tryz.func92 (by kernel_rfl) (by kernel_rfl)
abbrev yvcy:Type 1:={R:Type}→Option R
def z107z_ (g:Nat)  {R:Type}  : Option R :=
 none
noncomputable def z107z [Fuel]:yvcy:=@z107z_ NN
def ympy (g:yvcy):Spec A:=fun args=>match args with | [.d (.lit (.pointer none))]=>fun k=>g | _=>fun _=>none
noncomputable def ylly:Code:=(Tryz.f137.body).getD .skip
noncomputable def yDhy (g:Nat):Env A:=mkE [] [(6,[0])] [] [] [] [] [] [] [] []
noncomputable def yBwy:Code:=sub [1,1,0,1,0,0] ylly
theorem yBMy [Fuel]:yaby (yDhy NN) NN yBwy:=ypry (by kernel_rfl)
theorem yJ6y (g:Nat):Same (ympy (@z107z_ g)) (abody (yDhy g) Tryz.f137 ylly 1 [] [.asis] g):=by intro args; unfold ympy; split; exact .inr fun R k=>(by kernel_rfl); exact .inl fun R k=>rfl
theorem yK4y [Fuel]:Ok 137 (ympy (@z107z _)):=yaay std .nil ⟨rfl,rfl,by kernel_rfl,rfl,rfl,rfl⟩ (yJ6y NN) (cutsL (fun _=>rfl) (.cons yBMy .nil) (by kernel_rfl)) Tryz.func137 (by kernel_rfl) (by kernel_rfl)
abbrev yA7y:Type 1:={R:Type}→Option R
structure C_z93z where
 N:Nat
 z107z:yvcy
def z93z_ (g:C_z93z)  {R:Type}  : Option R :=
 (g.z107z)
noncomputable def yz5y [Fuel]:C_z93z:=⟨NN,@z107z _⟩
noncomputable def z93z [Fuel]:yA7y:=@z93z_ yz5y
def ypoy (g:yA7y):Spec A:=fun args=>match args with | [.d (.lit (.pointer none))]=>fun k=>g | _=>fun _=>none
noncomputable def yoJy:Code:=(Tryz.f93.body).getD .skip
noncomputable def yHly (g:C_z93z):Env A:=mkE [(137,ympy g.z107z)] [] [] [] [] [] [] [] [] []
noncomputable def yFcy:Code:=sub [1,1,0,1,0,0] yoJy
theorem yFey [Fuel]:yaby (yHly yz5y) NN yFcy:=ypry (by kernel_rfl)
theorem yNgy (g:C_z93z):Same (ypoy (@z93z_ g)) (abody (yHly g) Tryz.f93 yoJy 0 [] [.asis,.asis] g.N):=by intro args; unfold ypoy; split; exact .inr fun R k=>(by kernel_rfl); exact .inl fun R k=>rfl
theorem yPky [Fuel]:Ok 93 (ypoy (@z93z _)):=yaay std (.cons yK4y .nil) ⟨rfl,rfl,by kernel_rfl,rfl,rfl,rfl⟩ (yNgy yz5y) (cutsL (fun _=>rfl) (.cons yFey .nil) (by kernel_rfl)) Tryz.func93 (by kernel_rfl) (by kernel_rfl)
abbrev yz4y:Type 1:=List G_Deed→List G_Contact→List (List UInt8)→List Int→List (G_net_own×Bool)→{R:Type}→(List (Int×Int)→List G_Deed→List G_Contact→List (List UInt8)→List Int→List (G_net_own×Bool)→Option R)→Option R
def z57z_L3 (g:Nat):Nat→Int→Int→List (G_net_own×Bool)→List (Int×Int)→List G_Deed→List G_Contact→List (List UInt8)→List Int→{R:Type}→(List (G_net_own×Bool)→List (Int×Int)→List G_Deed→List G_Contact→List (List UInt8)→List Int→Option R)→Option R
 | 0,_,_,_,_,_,_,_,_,_,_=>none
 | n + 1,v6,v7,v8,v9,v10,v11,v12,v13,_,e0=>(bif (decide (v7 < v6)) then (inr v11 v7 (at_ v11 v7 fun x15=>(bif (decide (x15.f_Sent > 0)) then z57z_L3 g n v6 (w64 (v7 + 1)) v8 (ydEy x15.f_Sent (w64 (((yb5y x15.f_Sent v9).getD 0) + 1)) v9) v10 v11 v12 v13 e0 else z57z_L3 g n v6 (w64 (v7 + 1)) v8 v9 v10 v11 v12 v13 e0))) else e0 v8 v9 v10 v11 v12 v13)
def z57z_ (g:Nat) (a1:List G_Deed) (a2:List G_Contact) (a3:List (List UInt8)) (a4:List Int) (a5:List (G_net_own×Bool)) {R:Type} (k0:List (Int×Int)→List G_Deed→List G_Contact→List (List UInt8)→List Int→List (G_net_own×Bool)→Option R):Option R :=
 (z57z_L3 g g (a2.length:Int) 0 a5 [] a1 a2 a3 a4 (fun e16 e17 e18 e19 e20 e21=>k0 e17 e18 e19 e20 e21 e16))
noncomputable def z57z [Fuel]:yz4y:=@z57z_ NN
def yoEy (g:yz4y):Spec A:=fun args=>match args with | [.box [.arr 104 a1,.arr 89 a2,.arr 9 a3,.arr 3 a4,.mp 223 4 a5]]=>fun k=>g a1 a2 a3 a4 a5 (fun z0 z1 z2 z3 z4 z5=>k (.mp 3 3 z0) [.box [.arr 104 z1,.arr 89 z2,.arr 9 z3,.arr 3 z4,.mp 223 4 z5]]) | _=>fun _=>none
def yl0y:SSt:=mkSh 26 12 [(0,.ptr 0 0),(3,.mp 6),(10,.own 89 8),(11,.int .i64),(12,.int .i64)] [(0,.box [.own 104 7,.own 89 8,.own 9 9,.own 3 10,.mp 5]),(5,.mp 223 4),(6,.mp 3 3),(7,.row 104),(8,.row 89),(9,.row 9),(10,.row 3)]
def yf3y (g:Nat) (n:Nat):LPT A:=fun ps=>match ps with | [.d (.int .i64 p1),.d (.int .i64 p2),.mp 223 4 p3,.mp 3 3 p4,.d (.sl 104 p5),.d (.sl 89 p6),.d (.sl 9 p7),.d (.sl 3 p8)]=>fun K=>z57z_L3 g n p1 p2 p3 p4 p5 p6 p7 p8 (fun z0 z1 z2 z3 z4 z5=>K (.exit 0) (mkSt 26 12 [(0,.ptr 0 0),(3,.mp 6)] [(0,some (.box [.own 104 7,.own 89 8,.own 9 9,.own 3 10,.mp 5])),(5,some (.mp 223 4 z0)),(6,some (.mp 3 3 z1)),(7,some (.row 104 z2)),(8,some (.row 89 z3)),(9,some (.row 9 z4)),(10,some (.row 3 z5))])) | _=>fun _=>none
noncomputable def ysKy (g:Nat):Env A:=mkE [] [(5,[11]),(6,[6])] [(3,⟨[0,3,10,11,12],[],[0,5,6],[(0,0,104,7),(0,1,89,8),(0,2,9,9),(0,3,3,10)],[],[],[]⟩)] [(3,⟨[0,3],[],[0,5,6,7,8,9,10],[],[],[],[]⟩)] [(3,yady yl0y (yf3y g g))] [] [] [] [] [0]
theorem yQay [Fuel]:yahy (ysKy NN).C:=ct_of (P:=Tryz.prog) (T:=T) .nil (by kernel_rfl)
noncomputable def yrUy:Code:=sub [1,1,0,1,0,0] ylly
theorem yGAy (g:Nat) (n:Nat):yaiy (ysKy g) g yrUy yl0y (yf3y g) n:=by intro ps; unfold yf3y; split; exact .inr fun R K=>(by kernel_rfl); exact .inl fun R K=>rfl
theorem yEzy [Fuel]:yaby (ysKy NN) NN yrUy:=yacy yl0y (yf3y NN) (by kernel_rfl) yQay (cuts0 (fun _=>rfl) (by kernel_rfl)) (fun ps R K=>by unfold yf3y; split <;> (try unfold z57z_L3) <;> rfl) (yGAy NN)
theorem yOSy (g:Nat):Same (yoEy (@z57z_ g)) (abody (ysKy g) Tryz.f137 ylly 12 [0,1,2,3,4,5] [.asis] g):=by intro args; unfold yoEy; split; exact .inr fun R k=>(by kernel_rfl); exact .inl fun R k=>rfl
theorem yD1y [Fuel]:Ok 137 (yoEy (@z57z _)):=yaay std .nil ⟨rfl,rfl,by kernel_rfl,rfl,rfl,rfl⟩ (yOSy NN) (cutsL (fun _=>rfl) (.cons yEzy .nil) (by kernel_rfl)) Tryz.func137 (by kernel_rfl) (by kernel_rfl)
abbrev yATy:Type 1:=List G_Deed→List G_Contact→List (List UInt8)→List Int→List (G_net_own×Bool)→{R:Type}→(List (Int×Int)→List G_Deed→List G_Contact→List (List UInt8)→List Int→List (G_net_own×Bool)→Option R)→Option R
noncomputable def z21z_L3 (g:Nat):Nat→List (G_net_own×Bool)→List (G_net_own×Bool)→List (Int×Int)→List G_Deed→List G_Contact→List (List UInt8)→List Int→{R:Type}→(List (G_net_own×Bool)→List (Int×Int)→List G_Deed→List G_Contact→List (List UInt8)→List Int→Option R)→Option R
 | 0,_,_,_,_,_,_,_,_,_=>none
 | n + 1,m11,l12,v6,v7,v8,v9,v10,_,e0=>(ydYy l12 (e0 m11 v6 v7 v8 v9 v10) fun x15 l16=>z21z_L3 g n m11 l16 (ydEy x15.1.f_no (w64 (((yb5y x15.1.f_no v6).getD 0) + 1)) v6) v7 v8 v9 v10 e0)
noncomputable def yi4y (g:Nat) (a1:List G_Deed) (a2:List G_Contact) (a3:List (List UInt8)) (a4:List Int) (a5:List (G_net_own×Bool)) {R:Type} (k0:List (Int×Int)→List G_Deed→List G_Contact→List (List UInt8)→List Int→List (G_net_own×Bool)→Option R):Option R :=
 (z21z_L3 g g a5 a5 [] a1 a2 a3 a4 (fun e17 e18 e19 e20 e21 e22=>k0 e18 e19 e20 e21 e22 e17))
def ynWy (p:IV A×List (IV A)):Option ((List (Int×Int))×(List G_Deed)×(List G_Contact)×(List (List UInt8))×(List Int)×(List (G_net_own×Bool))):=match p with | (.mp 3 3 b1,[.box [.arr 104 b2,.arr 89 b3,.arr 9 b4,.arr 3 b5,.mp 223 4 b6]])=>some (b1,b2,b3,b4,b5,b6) | _=>none
def yeXy (q:(List (Int×Int))×(List G_Deed)×(List G_Contact)×(List (List UInt8))×(List Int)×(List (G_net_own×Bool))):IV A×List (IV A):=(.mp 3 3 q.1,[.box [.arr 104 q.2.1,.arr 89 q.2.2.1,.arr 9 q.2.2.2.1,.arr 3 q.2.2.2.2.1,.mp 223 4 q.2.2.2.2.2]])
theorem yKxy (p:IV A×List (IV A)) (q:(List (Int×Int))×(List G_Deed)×(List G_Contact)×(List (List UInt8))×(List Int)×(List (G_net_own×Bool))) (h:ynWy p = some q):p = yeXy q:=by unfold ynWy at h; split at h; (cases h; rfl); cases h
noncomputable def z21z_ (g:Nat) (a1:List G_Deed) (a2:List G_Contact) (a3:List (List UInt8)) (a4:List Int) (a5:List (G_net_own×Bool)) {R:Type} (k0:List (Int×Int)→List G_Deed→List G_Contact→List (List UInt8)→List Int→List (G_net_own×Bool)→Option R):Option R :=
 (yi4y g a1 a2 a3 a4 a5 (fun z0 z1 z2 z3 z4 z5=>some (yeXy (z0,z1,z2,z3,z4,z5)))).bind fun p=>(decK ynWy p (fun q=>k0 q.1 q.2.1 q.2.2.1 q.2.2.2.1 q.2.2.2.2.1 q.2.2.2.2.2) none)
noncomputable def z21z [Fuel]:yATy:=@z21z_ NN
def yd2y (g:yATy):Spec A:=fun args=>match args with | [.box [.arr 104 a1,.arr 89 a2,.arr 9 a3,.arr 3 a4,.mp 223 4 a5]]=>fun k=>g a1 a2 a3 a4 a5 (fun z0 z1 z2 z3 z4 z5=>k (.mp 3 3 z0) [.box [.arr 104 z1,.arr 89 z2,.arr 9 z3,.arr 3 z4,.mp 223 4 z5]]) | _=>fun _=>none
def ymgy:SSt:=mkSh 21 12 [(0,.ptr 0 0),(3,.mp 6),(9,.mp 5)] [(0,.box [.own 104 7,.own 89 8,.own 9 9,.own 3 10,.mp 5]),(5,.gone (2,0)),(6,.mp 3 3),(7,.row 104),(8,.row 89),(9,.row 9),(10,.row 3)]
noncomputable def ygdy (g:Nat) (n:Nat) (m l:List (A 223×A 4)):LPT A:=fun ps=>match ps with | [.mp 3 3 p1,.d (.sl 104 p2),.d (.sl 89 p3),.d (.sl 9 p4),.d (.sl 3 p5)]=>fun K=>z21z_L3 g n m l p1 p2 p3 p4 p5 (fun z0 z1 z2 z3 z4 z5=>K .normal (mkSt 21 12 [(0,.ptr 0 0),(3,.mp 6)] [(0,some (.box [.own 104 7,.own 89 8,.own 9 9,.own 3 10,.mp 5])),(5,some (.mp 223 4 z0)),(6,some (.mp 3 3 z1)),(7,some (.row 104 z2)),(8,some (.row 89 z3)),(9,some (.row 9 z4)),(10,some (.row 3 z5))])) | _=>fun _=>none
noncomputable def yq0y:Code:=(Tryz.f138.body).getD .skip
noncomputable def ytuy (g:Nat):Env A:=mkE [] [(4,[11]),(5,[6])] [(3,⟨[0,3,9],[],[0,5,6],[(0,0,104,7),(0,1,89,8),(0,2,9,9),(0,3,3,10)],[],[],[]⟩)] [(3,⟨[0,3],[],[0,5,6,7,8,9,10],[],[],[],[]⟩)] [] [] [] [] [] [0]
noncomputable def yDsy (g:Nat):Nat→Option (ybDy A):=fun i=>List.lookup i [(3,ydby 5 223 4 ymgy (ygdy g g))]
theorem ct_z21z [Fuel]:yahy (ytuy NN).C:=ct_of (P:=Tryz.prog) (T:=T) .nil (by kernel_rfl)
noncomputable def ytYy:RangeP:=(ydTy (sub [1,1,0,0] yq0y) (sub [1,1,0,1] yq0y)).get (by kernel_rfl)
theorem yIDy (g:Nat) (n:Nat):yDOy (ytuy g) g ytYy 5 223 4 ymgy (ygdy g) n:=by intro m l ps; unfold ygdy; split; exact .inr fun R K=>(by kernel_rfl); exact .inl fun R K=>rfl
theorem yF6y [Fuel]:ROk (ytuy NN) (yDsy NN) NN ytYy:=yEOy ymgy (ygdy NN) (by kernel_rfl) (cuts0 (fun _=>rfl) (by kernel_rfl)) (fun m l ps R K=>by unfold ygdy; split <;> (try unfold z21z_L3) <;> rfl) (yIDy NN)
theorem yNey (g:Nat):Same (yd2y (@yi4y g)) (ynQy (ytuy g) (yDsy g) Tryz.f138 yq0y 12 [0,1,2,3,4,5] [.asis] g):=by intro args; unfold yd2y; split; exact .inr fun R k=>(by kernel_rfl); exact .inl fun R k=>rfl
theorem yPEy (g:Nat):Whole (yd2y (@z21z_ g)) (yd2y (@yi4y g)):=by
 intro args R k res h
 unfold yd2y at h
 split at h
 ·obtain ⟨p,hp,h⟩:=Option.bind_eq_some_iff.1 h
  exact ⟨p,hp,(yuwy (inj:=yeXy) yKxy (fun h=>(by cases h)) h)⟩
 ·cases h
theorem yOpy (g:Nat):yaIy (yd2y (@z21z_ g)):=by
 intro args R k
 unfold yd2y
 split
 ·unfold z21z_
  rw [Option.bind_assoc]
  exact congrArg (Option.bind _) (funext fun p=>(yvry (inj:=yeXy) rfl))
 ·rfl
theorem yDQy [Fuel]:Ok 138 (yd2y (@z21z _)):=yRwy std .nil ⟨rfl,rfl,by kernel_rfl,rfl,rfl,rfl⟩ (yNey NN) (yPEy NN) (yOpy NN) (cutsR (fun _=>rfl) .nil (.cons yF6y .nil) (by kernel_rfl) (by kernel_rfl)) Tryz.func138 (by kernel_rfl) (by kernel_rfl)
end Go.Am
