/- The functions of the program as Lean functions, each shown to be what the code computes, part 9. No condition: lemmas for the claim. -/
import Derived.Test.YtmhbhdhddlbdlaaGreatDoorF0
import Derived.Test.YtmhbhdhddlbdlaaGreatDoorFSh
import Derived.Test.YtmhbhdhddlbdlaaGreatDoorF8
set_option linter.unusedVariables false
set_option maxRecDepth 100000
namespace Go.Am
open Go Go.Proofs
abbrev yxfy:Type 1:=List G_Deed→Int→{R:Type}→(List Int→Option R)→Option R
structure C_z16z where
 N:Nat
 z74z:ywUy
 z43z:yvLy
def z16z_L6 (g:C_z16z):Nat→List G_Deed→Int→List (G_net_own×Bool)→List Int→{R:Type}→(Int→List (G_net_own×Bool)→List Int→Option R)→Option R
 | 0,y0,y1,y2,y3,_,e0=>e0 y1 y2 y3
 | n + 1,l7,v4,v5,v6,_,e0=>(match l7[n]? with | none=>none | some x8=>(bif (decide (x8.f_At > v4)) then z16z_L6 g n l7 v4 v5 v6 e0 else (bif ((ybRy (⟨x8.f_Site,x8.f_No⟩:G_net_own) v5).getD false) then z16z_L6 g n l7 v4 v5 v6 e0 else (bif (decide ((v6.length + [(n:Int)].length) * 8≤yaiy)) then (bif (x8.f_Kind == 5) then z16z_L6 g n l7 v4 (ya0y (⟨x8.f_Of,x8.f_Other⟩:G_net_own) true v5) (v6 ++ [(n:Int)]) e0 else z16z_L6 g n l7 v4 v5 (v6 ++ [(n:Int)]) e0) else none))))
noncomputable def yj3y (g:C_z16z) (a1:List G_Deed) (a2:Int) {R:Type} (k0:List Int→Option R):Option R :=
 (g.z74z a1 (fun r3=>(bif decide (r3.length < 4611686018427387904) then (z16z_L6 g r3.length r3 a2 [] [] (fun e9 e10 e11=>(g.z43z e11 (fun r12=>k0 r12)))) else none)))
def ymBy (p:IV A×List (IV A)):Option ((List Int)):=match p with | (.arr 3 b1,[.undef,.undef])=>some (b1) | _=>none
def yeyy (q:(List Int)):IV A×List (IV A):=(.arr 3 q,[.undef,.undef])
theorem yEFy (p:IV A×List (IV A)) (q:(List Int)) (h:ymBy p = some q):p = yeyy q:=by unfold ymBy at h; split at h; (cases h; rfl); cases h
noncomputable def z16z_ (g:C_z16z) (a1:List G_Deed) (a2:Int) {R:Type} (k0:List Int→Option R):Option R :=
 (yj3y g a1 a2 (fun z0=>some (yeyy (z0)))).bind fun p=>(decK ymBy p (fun q=>k0 q) none)
noncomputable def ydky [Fuel]:C_z16z:=⟨NN,@z74z _,@z43z _⟩
noncomputable def z16z [Fuel]:yxfy:=@z16z_ ydky
def ydzy (g:yxfy):Spec A:=fun args=>match args with | [.d (.sl 51 a1),.d (.int .i64 a2)]=>fun k=>g a1 a2 (fun z0=>k (.arr 3 z0) [.undef,.undef]) | _=>fun _=>none
def yhty:SSt:=mkSh 43 9 [(3,.ptr 0 0),(5,.ptr 2 0),(6,.ptr 3 0)] [(0,.box [.int .i64]),(1,.mp 107 4),(2,.box [.mp 1]),(3,.box [.own 3 5]),(5,.row 3)]
abbrev ycky:Bw:=⟨166,44,51,3,4⟩
def ydyy (g:C_z16z) (n:Nat) (l:List (A (ycky).tE)):LPT A:=fun ps=>match ps with | [.d (.int .i64 p1),.mp 107 4 p2,.d (.sl 3 p3)]=>fun K=>z16z_L6 g n l p1 p2 p3 (fun z0 z1 z2=>K .normal (mkSt 43 9 [(3,.ptr 0 0),(5,.ptr 2 0),(6,.ptr 3 0)] [(0,some (.box [.d (.int .i64 z0)])),(1,some (.mp 107 4 z1)),(2,some (.box [.mp 1])),(3,some (.box [.own 3 5])),(5,some (.row 3 z2))])) | _=>fun _=>none
noncomputable def yyzy:Code:=(Tryz.f50.body).getD .skip
noncomputable def ypCy (g:C_z16z):Env A:=mkE [(104,ynRy g.z74z),(105,ynay g.z43z)] [(3,[0]),(5,[2]),(6,[3]),(8,[6]),(9,[1]),(11,[4]),(29,[7]),(30,[8])] [(6,⟨[3,5,6],[],[0,1,2,3],[(3,0,3,5)],[],[],[]⟩)] [(6,⟨[3,5,6],[],[0,1,2,3],[],[],[],[]⟩)] [] [] [] [] [(105,0)] []
noncomputable def yzry (g:C_z16z):Nat→Option (Nat→ybLy A (ycky).tE):=fun i=>List.lookup i [(0,yCNy (ycky).tE yhty (ydyy g))]
def yr0y:Nat→List Nat:=fun i=>(List.lookup i [(0,[3,5,6])]).getD []
theorem ct_z16z [Fuel]:yagy (ypCy ydky).C:=ct_of (P:=Tryz.prog) (T:=T) (.cons yyqy (.cons yyKy .nil)) (by kernel_rfl)
noncomputable def yxAy:BwP:=(bwP Tryz.f166.body).get (by kernel_rfl)
theorem yxYy:BwFine Tryz.prog T ycky:=⟨yGny (fn:=Tryz.f166) Tryz.func166 yxAy (by kernel_rfl) (by kernel_rfl) (by kernel_rfl) (by kernel_rfl) (by kernel_rfl) (by kernel_rfl) (by kernel_rfl) (by kernel_rfl) (by kernel_rfl),enters_of (fn:=Tryz.f166) Tryz.func166 (by kernel_rfl) (by kernel_rfl),by kernel_rfl,by kernel_rfl,fun x=>by kernel_rfl⟩
noncomputable def ykIy:RfP:=(rfOf (sub [1,1,1,0] yyzy)).get (by kernel_rfl)
theorem yC8y (g:C_z16z):yy3y (ycky).tE yhty (ydyy g):=by intro xs ps; unfold ydyy; split; exact .inr fun R K=>(by kernel_rfl); exact .inl fun R K=>rfl
theorem yDIy (g:C_z16z) (i:Nat):yy7y (ypCy g) g.N (yr0y (ykIy).B) ykIy (ycky).tE yhty (ydyy g) i:=by intro xs ps; unfold ydyy; split; exact .inr fun R K=>(by kernel_rfl); exact .inl fun R K=>rfl
theorem yAOy [Fuel]:BOk (ypCy ydky) ycky (yzry ydky) yr0y NN ykIy:=yDUy yhty (ydyy ydky) (by kernel_rfl) (cuts0 (fun _=>rfl) (by kernel_rfl)) (cuts0 (fun _=>rfl) (by kernel_rfl)) (yC8y ydky) (yDIy ydky)
theorem yILy (g:C_z16z):Same (ydzy (@yj3y g)) (ylNy (ypCy g) ycky (yzry g) yr0y Tryz.f50 yyzy 9 [] [.arr 3] g.N):=by intro args; unfold ydzy; split; exact .inr fun R k=>(by kernel_rfl); exact .inl fun R k=>rfl
theorem yImy (g:C_z16z):Whole (ydzy (@z16z_ g)) (ydzy (@yj3y g)):=by
 intro args R k res h
 unfold ydzy at h
 split at h
 ·obtain ⟨p,hp,h⟩:=Option.bind_eq_some_iff.1 h
  exact ⟨p,hp,(yzey (inj:=yeyy) yEFy (fun h=>(by cases h)) h)⟩
 ·cases h
theorem yHLy (g:C_z16z):yaAy (ydzy (@z16z_ g)):=by
 intro args R k
 unfold ydzy
 split
 ·unfold z16z_
  rw [Option.bind_assoc]
  exact congrArg (Option.bind _) (funext fun p=>(yyny (inj:=yeyy) rfl))
 ·rfl
theorem yy1y [Fuel]:Ok 50 (ydzy (@z16z _)):=yK2y std (.cons yyqy (.cons yyKy .nil)) ⟨rfl,rfl,by kernel_rfl,rfl,rfl,rfl⟩ yxYy (yILy ydky) (yImy ydky) (yHLy ydky) (cutsB (fun _=>rfl) .nil (.cons yAOy .nil) (by kernel_rfl) (by kernel_rfl)) Tryz.func50 (by kernel_rfl) (by kernel_rfl)
abbrev ylFy:Type 1:=G_Contact→{R:Type}→(G_Contact→Option R)→Option R
def yw7y (g:Nat) (a1:G_Contact) {R:Type} (k0:G_Contact→Option R):Option R :=
 k0 (⟨a1.f_At,a1.f_Mode,a1.f_Band,a1.f_Call,0,0,[],[]⟩:G_Contact)
noncomputable def net_key [Fuel]:ylFy:=@yw7y NN
def yhny (g:ylFy):Spec A:=fun args=>match args with | [.agg [.d (.int .i64 a1),.d (.int .i64 a2),.d (.str a3),.d (.str a4),.d (.int .i64 a5),.d (.int .i64 a6),.d (.str a7),.d (.str a8)]]=>fun k=>g ⟨a1,a2,a3,a4,a5,a6,a7,a8⟩ (fun z0=>k (.agg [.d (.int .i64 z0.f_At),.d (.int .i64 z0.f_Mode),.d (.str z0.f_Band),.d (.str z0.f_Call),.d (.int .i64 z0.f_Sent),.d (.int .i64 z0.f_Heard),.d (.str z0.f_Gave),.d (.str z0.f_Got)]) [.undef]) | _=>fun _=>none
noncomputable def yD5y:Code:=(Tryz.f209.body).getD .skip
noncomputable def yCEy (g:Nat):Env A:=mkE [] [(1,[0]),(2,[1])] [] [] [] [] [] [] [] []
theorem yBzy (g:Nat):Same (yhny (@yw7y g)) (abody (yCEy g) Tryz.f209 yD5y 2 [] [.asis] g):=by intro args; unfold yhny; split; exact .inr fun R k=>(by kernel_rfl); exact .inl fun R k=>rfl
theorem yq0y [Fuel]:Ok 209 (yhny (@net_key _)):=yaay std .nil ⟨rfl,rfl,by kernel_rfl,rfl,rfl,rfl⟩ (yBzy NN) (cuts0 (fun _=>rfl) (by kernel_rfl)) Tryz.func209 (by kernel_rfl) (by kernel_rfl)
abbrev ytNy:Type 1:=List G_Contact→{R:Type}→(List G_Contact→Option R)→Option R
noncomputable def z36z [Fuel]:ytNy:=@yboy G_Contact (@z47z _)
def yjLy (g:ytNy):Spec A:=fun args=>match args with | [.arr 49 a1,.fn 132 []]=>fun k=>g a1 (fun z=>k (.tup []) [.arr 49 z,.fn 132 []]) | _=>fun _=>none
theorem yyVy [Fuel] (xs:List (A 49)) (R:Type) (k:IV A→List (IV A)→Option R):yjLy (@z36z _) [.arr 49 xs,.fn 132 []] k = yboy (α:=A 49) (@z47z _) xs (fun z=>k (.tup []) [.arr 49 z,.fn 132 []]):=by kernel_rfl
theorem yzOy [Fuel] (args:List (IV A)) (R:Type) (k:IV A→List (IV A)→Option R) (h:∀ xs:List (A 49),args ≠ [.arr 49 xs,.fn 132 []]):yjLy (@z36z _) args k = none:=by unfold yjLy; split; exact absurd rfl (h _); rfl
theorem yHly [Fuel] (x y:A 49) (R:Type) (k:Int→Option R):yjXy T (yeDy (@z47z _)) 49 x y k = @z47z _ x y R k:=by kernel_rfl
theorem yJEy (x:G_Contact):(ynVy x).all scal = true:=rfl
theorem yyIy [Fuel]:Ok 210 (yjLy (@z36z _)):=⟨ygfy (tyOk Tryz.prog) (e:=49) Tryz.sortf210 Tryz.isAgg49 Tryz.sizeOf49 (fun x d hd=>List.all_eq_true.1 (yJEy x) d hd) yHly yu0y.fs yu0y.en yyVy yzOy,ykgy (e:=49) yyVy yzOy,enters_of (fn:=Tryz.f210) Tryz.func210 (by kernel_rfl) (by kernel_rfl)⟩
abbrev yuJy:Type 1:=List G_Deed→Int→{R:Type}→(Int→Option R)→(List G_Deed→List G_Contact→List (List UInt8)→List Int→List (G_net_own×Bool)→Int→Option R)→Option R
structure C_z24z where
 N:Nat
 z16z:yxfy
 net_key:ylFy
 z36z:ytNy
def z24z_L4 (g:C_z24z):Nat→List G_Deed→Int→Int→List (G_net_own×Bool)→List (G_Contact×G_Deed)→List Int→List G_Deed→List G_Contact→List (List UInt8)→List Int→{R:Type}→(List (G_net_own×Bool)→List (G_Contact×G_Deed)→List G_Deed→List G_Contact→List (List UInt8)→List Int→Option R)→Option R
 | 0,_,_,_,_,_,_,_,_,_,_,_,_=>none
 | n + 1,v4,v5,v6,v7,v8,v9,v10,v11,v12,v13,_,e0=>(bif (decide (v6 < v5)) then (inr v9 v6 (at_ v9 v6 fun x26=>(get_ v4 x26 fun x27=>(bif (decide ((v10.length + [x27].length) * 176≤yaiy)) then (bif (x27.f_Kind == 3) then (bif (x27.f_Kind != 1) then z24z_L4 g n v4 v5 (w64 (v6 + 1)) (ya0y (⟨x27.f_Site,x27.f_Contact.f_Sent⟩:G_net_own) true v7) v8 v9 (v10 ++ [x27]) v11 v12 v13 e0 else (g.net_key x27.f_Contact (fun r28=>(bif (yaHy r28 v8).isSome then (bif (decide ((v13.length + [x26].length) * 8≤yaiy)) then z24z_L4 g n v4 v5 (w64 (v6 + 1)) (ya0y (⟨x27.f_Site,x27.f_Contact.f_Sent⟩:G_net_own) true v7) v8 v9 (v10 ++ [x27]) v11 v12 (v13 ++ [x26]) e0 else none) else (g.net_key x27.f_Contact (fun r29=>(bif (decide ((v11.length + [x27.f_Contact].length) * 96≤yaiy)) then z24z_L4 g n v4 v5 (w64 (v6 + 1)) (ya0y (⟨x27.f_Site,x27.f_Contact.f_Sent⟩:G_net_own) true v7) (ya1y r29 x27 v8) v9 (v10 ++ [x27]) (v11 ++ [x27.f_Contact]) v12 v13 e0 else none))))))) else (bif (x27.f_Kind == 4) then (bif (x27.f_Kind == 4) then (bif (x27.f_Kind != 1) then z24z_L4 g n v4 v5 (w64 (v6 + 1)) (yaLy (⟨x27.f_Site,x27.f_Contact.f_Sent⟩:G_net_own) v7) v8 v9 (v10 ++ [x27]) v11 v12 v13 e0 else (g.net_key x27.f_Contact (fun r30=>(bif (yaHy r30 v8).isSome then (bif (decide ((v13.length + [x26].length) * 8≤yaiy)) then z24z_L4 g n v4 v5 (w64 (v6 + 1)) (yaLy (⟨x27.f_Site,x27.f_Contact.f_Sent⟩:G_net_own) v7) v8 v9 (v10 ++ [x27]) v11 v12 (v13 ++ [x26]) e0 else none) else (g.net_key x27.f_Contact (fun r31=>(bif (decide ((v11.length + [x27.f_Contact].length) * 96≤yaiy)) then z24z_L4 g n v4 v5 (w64 (v6 + 1)) (yaLy (⟨x27.f_Site,x27.f_Contact.f_Sent⟩:G_net_own) v7) (ya1y r31 x27 v8) v9 (v10 ++ [x27]) (v11 ++ [x27.f_Contact]) v12 v13 e0 else none))))))) else (bif (x27.f_Kind != 1) then z24z_L4 g n v4 v5 (w64 (v6 + 1)) v7 v8 v9 (v10 ++ [x27]) v11 v12 v13 e0 else (g.net_key x27.f_Contact (fun r32=>(bif (yaHy r32 v8).isSome then (bif (decide ((v13.length + [x26].length) * 8≤yaiy)) then z24z_L4 g n v4 v5 (w64 (v6 + 1)) v7 v8 v9 (v10 ++ [x27]) v11 v12 (v13 ++ [x26]) e0 else none) else (g.net_key x27.f_Contact (fun r33=>(bif (decide ((v11.length + [x27.f_Contact].length) * 96≤yaiy)) then z24z_L4 g n v4 v5 (w64 (v6 + 1)) v7 (ya1y r33 x27 v8) v9 (v10 ++ [x27]) (v11 ++ [x27.f_Contact]) v12 v13 e0 else none)))))))) else (bif (x27.f_Kind == 1) then (bif (x27.f_Kind != 1) then z24z_L4 g n v4 v5 (w64 (v6 + 1)) (yaLy (⟨x27.f_Site,x27.f_Contact.f_Sent⟩:G_net_own) v7) v8 v9 (v10 ++ [x27]) v11 v12 v13 e0 else (g.net_key x27.f_Contact (fun r34=>(bif (yaHy r34 v8).isSome then (bif (decide ((v13.length + [x26].length) * 8≤yaiy)) then z24z_L4 g n v4 v5 (w64 (v6 + 1)) (yaLy (⟨x27.f_Site,x27.f_Contact.f_Sent⟩:G_net_own) v7) v8 v9 (v10 ++ [x27]) v11 v12 (v13 ++ [x26]) e0 else none) else (g.net_key x27.f_Contact (fun r35=>(bif (decide ((v11.length + [x27.f_Contact].length) * 96≤yaiy)) then z24z_L4 g n v4 v5 (w64 (v6 + 1)) (yaLy (⟨x27.f_Site,x27.f_Contact.f_Sent⟩:G_net_own) v7) (ya1y r35 x27 v8) v9 (v10 ++ [x27]) (v11 ++ [x27.f_Contact]) v12 v13 e0 else none))))))) else (bif (x27.f_Kind != 1) then z24z_L4 g n v4 v5 (w64 (v6 + 1)) v7 v8 v9 (v10 ++ [x27]) v11 v12 v13 e0 else (g.net_key x27.f_Contact (fun r36=>(bif (yaHy r36 v8).isSome then (bif (decide ((v13.length + [x26].length) * 8≤yaiy)) then z24z_L4 g n v4 v5 (w64 (v6 + 1)) v7 v8 v9 (v10 ++ [x27]) v11 v12 (v13 ++ [x26]) e0 else none) else (g.net_key x27.f_Contact (fun r37=>(bif (decide ((v11.length + [x27.f_Contact].length) * 96≤yaiy)) then z24z_L4 g n v4 v5 (w64 (v6 + 1)) v7 (ya1y r37 x27 v8) v9 (v10 ++ [x27]) (v11 ++ [x27.f_Contact]) v12 v13 e0 else none)))))))))) else none)))) else e0 v7 v8 v10 v11 v12 v13)
def z24z_L25 (g:C_z24z):Nat→Int→Int→List (G_net_own×Bool)→List (G_Contact×G_Deed)→List G_Deed→List G_Contact→List (List UInt8)→List Int→{R:Type}→(List (G_net_own×Bool)→List G_Deed→List G_Contact→List (List UInt8)→List Int→Option R)→Option R
 | 0,_,_,_,_,_,_,_,_,_,_=>none
 | n + 1,v45,v46,v47,v48,v49,v50,v51,v52,_,e0=>(bif (decide (v46 < v45)) then (inr v50 v46 (at_ v50 v46 fun x55=>(g.net_key x55 (fun r56=>(bif (decide ((v51.length + [((yaHy r56 v48).getD (⟨[],0,0,0,(⟨0,0,[],[],0,0,[],[]⟩:G_Contact),[],[],0⟩:G_Deed)).f_Site].length) * 16≤yaiy)) then z24z_L25 g n v45 (w64 (v46 + 1)) v47 v48 v49 v50 (v51 ++ [((yaHy r56 v48).getD (⟨[],0,0,0,(⟨0,0,[],[],0,0,[],[]⟩:G_Contact),[],[],0⟩:G_Deed)).f_Site]) v52 e0 else none))))) else e0 v47 v49 v50 v51 v52)
def z24z_ (g:C_z24z) (a1:List G_Deed) (a2:Int) {R:Type} (k0:Int→Option R) (k1:List G_Deed→List G_Contact→List (List UInt8)→List Int→List (G_net_own×Bool)→Int→Option R):Option R :=
 (g.z16z a1 a2 (fun r3=>(z24z_L4 g g.N a1 (r3.length:Int) 0 [] [] r3 [] [] [] [] (fun e38 e39 e40 e41 e42 e43=>(bif (decide ((e41.length:Int) > 2000)) then k0 2 else (g.z36z e41 (fun r44=>(z24z_L25 g g.N (r44.length:Int) 0 e38 e39 e40 r44 e42 e43 (fun e57 e58 e59 e60 e61=>k1 e58 e59 e60 e61 e57 0)))))))))
noncomputable def yb0y [Fuel]:C_z24z:=⟨NN,@z16z _,@net_key _,@z36z _⟩
noncomputable def z24z [Fuel]:yuJy:=@z24z_ yb0y
def ynLy (g:yuJy):Spec A:=fun args=>match args with | [.d (.sl 51 a1),.d (.int .i64 a2)]=>fun k=>g a1 a2 (fun z0=>k (.tup [.d (.lit (.pointer none)),.d (.int .i64 z0)]) [.undef,.undef]) (fun z0 z1 z2 z3 z4 z5=>k (.tup [.box [.arr 51 z0,.arr 49 z1,.arr 9 z2,.arr 3 z3,.mp 107 4 z4],.d (.int .i64 z5)]) [.undef,.undef]) | _=>fun _=>none
def ylay:SSt:=mkSh 143 23 [(0,.sl 51),(6,.ptr 1 0),(7,.mp 2),(21,.own 3 3),(22,.int .i64),(23,.int .i64)] [(0,.mp 107 4),(1,.box [.own 51 4,.own 49 5,.own 9 6,.own 3 7,.mp 0]),(2,.mp 49 51),(3,.row 3),(4,.row 51),(5,.row 49),(6,.row 9),(7,.row 3)]
def yfFy (g:C_z24z) (n:Nat):LPT A:=fun ps=>match ps with | [.d (.sl 51 p1),.d (.int .i64 p2),.d (.int .i64 p3),.mp 107 4 p4,.mp 49 51 p5,.d (.sl 3 p6),.d (.sl 51 p7),.d (.sl 49 p8),.d (.sl 9 p9),.d (.sl 3 p10)]=>fun K=>z24z_L4 g n p1 p2 p3 p4 p5 p6 p7 p8 p9 p10 (fun z0 z1 z2 z3 z4 z5=>K (.exit 0) (mkSt 143 23 [(6,.ptr 1 0),(7,.mp 2)] [(0,some (.mp 107 4 z0)),(1,some (.box [.own 51 4,.own 49 5,.own 9 6,.own 3 7,.mp 0])),(2,some (.mp 49 51 z1)),(4,some (.row 51 z2)),(5,some (.row 49 z3)),(6,some (.row 9 z4)),(7,some (.row 3 z5))])) | _=>fun _=>none
def yjay:SSt:=mkSh 143 23 [(6,.ptr 1 0),(7,.mp 2),(121,.own 49 17),(122,.int .i64),(123,.int .i64)] [(0,.mp 107 4),(1,.box [.own 51 16,.own 49 17,.own 9 18,.own 3 19,.mp 0]),(2,.mp 49 51),(16,.row 51),(17,.row 49),(18,.row 9),(19,.row 3)]
def ydTy (g:C_z24z) (n:Nat):LPT A:=fun ps=>match ps with | [.d (.int .i64 p1),.d (.int .i64 p2),.mp 107 4 p3,.mp 49 51 p4,.d (.sl 51 p5),.d (.sl 49 p6),.d (.sl 9 p7),.d (.sl 3 p8)]=>fun K=>z24z_L25 g n p1 p2 p3 p4 p5 p6 p7 p8 (fun z0 z1 z2 z3 z4=>K (.exit 3) (mkSt 143 23 [(6,.ptr 1 0)] [(0,some (.mp 107 4 z0)),(1,some (.box [.own 51 16,.own 49 17,.own 9 18,.own 3 19,.mp 0])),(16,some (.row 51 z1)),(17,some (.row 49 z2)),(18,some (.row 9 z3)),(19,some (.row 3 z4))])) | _=>fun _=>none
noncomputable def yoDy:Code:=(Tryz.f145.body).getD .skip
noncomputable def yjny (g:C_z24z):Env A:=mkE [(50,ydzy g.z16z),(209,yhny g.net_key),(210,yjLy g.z36z)] [(10,[8]),(11,[11]),(14,[20]),(15,[0]),(17,[1]),(18,[2]),(21,[3]),(37,[9]),(38,[10]),(86,[12]),(87,[13]),(102,[14]),(103,[15]),(137,[21]),(138,[22])] [(4,⟨[0,6,7,21,22,23],[],[0,1,2,3],[(1,0,51,4),(1,1,49,5),(1,2,9,6),(1,3,3,7)],[],[],[]⟩),(25,⟨[6,7,121,122,123],[],[0,1,2],[(1,0,51,16),(1,1,49,17),(1,2,9,18),(1,3,3,19)],[],[],[]⟩)] [(4,⟨[6,7],[],[0,1,2,4,5,6,7],[],[],[],[]⟩),(25,⟨[6],[],[0,1,16,17,18,19],[],[],[],[]⟩)] [(4,yafy ylay (yfFy g g.N)),(25,yafy yjay (ydTy g g.N))] [] [] [] [(210,0)] []
theorem yzNy [Fuel]:yagy (yjny yb0y).C:=ct_of (P:=Tryz.prog) (T:=T) (.cons yy1y (.cons yq0y (.cons yyIy .nil))) (by kernel_rfl)
noncomputable def yquy:Code:=sub [1,1,1,0,1,0,0] yoDy
theorem yBSy (g:C_z24z) (n:Nat):yaly (yjny g) g.N yquy ylay (yfFy g) n:=by intro ps; unfold yfFy; split; exact .inr fun R K=>(by kernel_rfl); exact .inl fun R K=>rfl
theorem yA1y [Fuel]:yaey (yjny yb0y) NN yquy:=yahy ylay (yfFy yb0y) (by kernel_rfl) yzNy (cuts0 (fun _=>rfl) (by kernel_rfl)) (fun ps R K=>by unfold yfFy; split <;> (try unfold z24z_L4) <;> rfl) (yBSy yb0y)
noncomputable def yory:Code:=sub [1,1,1,1,1,1,0,1,0,0] yoDy
theorem yBky (g:C_z24z) (n:Nat):yaly (yjny g) g.N yory yjay (ydTy g) n:=by intro ps; unfold ydTy; split; exact .inr fun R K=>(by kernel_rfl); exact .inl fun R K=>rfl
theorem yycy [Fuel]:yaey (yjny yb0y) NN yory:=yahy yjay (ydTy yb0y) (by kernel_rfl) yzNy (cuts0 (fun _=>rfl) (by kernel_rfl)) (fun ps R K=>by unfold ydTy; split <;> (try unfold z24z_L25) <;> rfl) (yBky yb0y)
theorem yICy (g:C_z24z):Same (ynLy (@z24z_ g)) (abody (yjny g) Tryz.f145 yoDy 23 [] [.asis,.asis] g.N):=by intro args; unfold ynLy; split; exact .inr fun R k=>(by kernel_rfl); exact .inl fun R k=>rfl
theorem yINy [Fuel]:Ok 145 (ynLy (@z24z _)):=yaay std (.cons yy1y (.cons yq0y (.cons yyIy .nil))) ⟨rfl,rfl,by kernel_rfl,rfl,rfl,rfl⟩ (yICy yb0y) (cutsL (fun _=>rfl) (.cons yA1y (.cons yycy .nil)) (by kernel_rfl)) Tryz.func145 (by kernel_rfl) (by kernel_rfl)
abbrev ywjy:Type 1:=List G_Deed→Int→{R:Type}→(Int→Option R)→(List G_Deed→List G_Contact→List (List UInt8)→List Int→List (G_net_own×Bool)→Int→Option R)→Option R
structure C_z76z where
 N:Nat
 z78z:yvry
 z24z:yuJy
def z76z_ (g:C_z76z) (a1:List G_Deed) (a2:Int) {R:Type} (k0:Int→Option R) (k1:List G_Deed→List G_Contact→List (List UInt8)→List Int→List (G_net_own×Bool)→Int→Option R):Option R :=
 (g.z78z a1 a2 (fun r3=>(bif (r3 != 0) then k0 r3 else (g.z24z a1 a2 (fun r4=>k0 r4) (fun r5 r6 r7 r8 r9 r10=>k1 r5 r6 r7 r8 r9 r10)))))
noncomputable def ypOy [Fuel]:C_z76z:=⟨NN,@z78z _,@z24z _⟩
noncomputable def z76z [Fuel]:ywjy:=@z76z_ ypOy
def ynTy (g:ywjy):Spec A:=fun args=>match args with | [.d (.sl 51 a1),.d (.int .i64 a2)]=>fun k=>g a1 a2 (fun z0=>k (.tup [.d (.lit (.pointer none)),.d (.int .i64 z0)]) [.undef,.undef]) (fun z0 z1 z2 z3 z4 z5=>k (.tup [.box [.arr 51 z0,.arr 49 z1,.arr 9 z2,.arr 3 z3,.mp 107 4 z4],.d (.int .i64 z5)]) [.undef,.undef]) | _=>fun _=>none
noncomputable def yHTy:Code:=(Tryz.f88.body).getD .skip
noncomputable def yLQy (g:C_z76z):Env A:=mkE [(49,ymQy g.z78z),(145,ynLy g.z24z)] [(15,[0,1,2,3,4,5])] [] [] [] [] [] [] [] []
theorem yIMy (g:C_z76z):Same (ynTy (@z76z_ g)) (abody (yLQy g) Tryz.f88 yHTy 6 [] [.asis,.asis] g.N):=by intro args; unfold ynTy; split; exact .inr fun R k=>(by kernel_rfl); exact .inl fun R k=>rfl
theorem yJZy [Fuel]:Ok 88 (ynTy (@z76z _)):=yaay std (.cons yHZy (.cons yINy .nil)) ⟨rfl,rfl,by kernel_rfl,rfl,rfl,rfl⟩ (yIMy ypOy) (cuts0 (fun _=>rfl) (by kernel_rfl)) Tryz.func88 (by kernel_rfl) (by kernel_rfl)
abbrev yuay:Type 1:={R:Type}→Option R
def z77z_ (g:Nat)  {R:Type}  : Option R :=
 none
noncomputable def z77z [Fuel]:yuay:=@z77z_ NN
def ynsy (g:yuay):Spec A:=fun args=>match args with | [.d (.lit (.pointer none))]=>fun k=>g | _=>fun _=>none
noncomputable def ykFy:Code:=(Tryz.f146.body).getD .skip
noncomputable def yBNy (g:Nat):Env A:=mkE [] [(6,[0])] [] [] [] [] [] [] [] []
noncomputable def yBly:Code:=sub [1,1,0,1,0,0] ykFy
theorem yAgy [Fuel]:yaey (yBNy NN) NN yBly:=ynoy (by kernel_rfl)
theorem yIyy (g:Nat):Same (ynsy (@z77z_ g)) (abody (yBNy g) Tryz.f146 ykFy 1 [] [.asis] g):=by intro args; unfold ynsy; split; exact .inr fun R k=>(by kernel_rfl); exact .inl fun R k=>rfl
theorem yIAy [Fuel]:Ok 146 (ynsy (@z77z _)):=yaay std .nil ⟨rfl,rfl,by kernel_rfl,rfl,rfl,rfl⟩ (yIyy NN) (cutsL (fun _=>rfl) (.cons yAgy .nil) (by kernel_rfl)) Tryz.func146 (by kernel_rfl) (by kernel_rfl)
abbrev yuey:Type 1:={R:Type}→Option R
structure C_z60z where
 N:Nat
 z77z:yuay
def z60z_ (g:C_z60z)  {R:Type}  : Option R :=
 (g.z77z)
noncomputable def yvTy [Fuel]:C_z60z:=⟨NN,@z77z _⟩
noncomputable def z60z [Fuel]:yuey:=@z60z_ yvTy
def ynfy (g:yuey):Spec A:=fun args=>match args with | [.d (.lit (.pointer none))]=>fun k=>g | _=>fun _=>none
noncomputable def ynDy:Code:=(Tryz.f89.body).getD .skip
noncomputable def yCHy (g:C_z60z):Env A:=mkE [(146,ynsy g.z77z)] [] [] [] [] [] [] [] [] []
noncomputable def yBey:Code:=sub [1,1,0,1,0,0] ynDy
theorem yA3y [Fuel]:yaey (yCHy yvTy) NN yBey:=ynoy (by kernel_rfl)
theorem yJdy (g:C_z60z):Same (ynfy (@z60z_ g)) (abody (yCHy g) Tryz.f89 ynDy 0 [] [.asis,.asis] g.N):=by intro args; unfold ynfy; split; exact .inr fun R k=>(by kernel_rfl); exact .inl fun R k=>rfl
theorem yHEy [Fuel]:Ok 89 (ynfy (@z60z _)):=yaay std (.cons yIAy .nil) ⟨rfl,rfl,by kernel_rfl,rfl,rfl,rfl⟩ (yJdy yvTy) (cutsL (fun _=>rfl) (.cons yA3y .nil) (by kernel_rfl)) Tryz.func89 (by kernel_rfl) (by kernel_rfl)
abbrev yvAy:Type 1:=List G_Deed→List G_Contact→List (List UInt8)→List Int→List (G_net_own×Bool)→{R:Type}→(List (Int×Int)→List G_Deed→List G_Contact→List (List UInt8)→List Int→List (G_net_own×Bool)→Option R)→Option R
def z34z_L3 (g:Nat):Nat→Int→Int→List (G_net_own×Bool)→List (Int×Int)→List G_Deed→List G_Contact→List (List UInt8)→List Int→{R:Type}→(List (G_net_own×Bool)→List (Int×Int)→List G_Deed→List G_Contact→List (List UInt8)→List Int→Option R)→Option R
 | 0,_,_,_,_,_,_,_,_,_,_=>none
 | n + 1,v6,v7,v8,v9,v10,v11,v12,v13,_,e0=>(bif (decide (v7 < v6)) then (inr v11 v7 (at_ v11 v7 fun x15=>(bif (decide (x15.f_Sent > 0)) then z34z_L3 g n v6 (w64 (v7 + 1)) v8 (ydny x15.f_Sent (w64 (((yb6y x15.f_Sent v9).getD 0) + 1)) v9) v10 v11 v12 v13 e0 else z34z_L3 g n v6 (w64 (v7 + 1)) v8 v9 v10 v11 v12 v13 e0))) else e0 v8 v9 v10 v11 v12 v13)
def z34z_ (g:Nat) (a1:List G_Deed) (a2:List G_Contact) (a3:List (List UInt8)) (a4:List Int) (a5:List (G_net_own×Bool)) {R:Type} (k0:List (Int×Int)→List G_Deed→List G_Contact→List (List UInt8)→List Int→List (G_net_own×Bool)→Option R):Option R :=
 (z34z_L3 g g (a2.length:Int) 0 a5 [] a1 a2 a3 a4 (fun e16 e17 e18 e19 e20 e21=>k0 e17 e18 e19 e20 e21 e16))
noncomputable def z34z [Fuel]:yvAy:=@z34z_ NN
def ym8y (g:yvAy):Spec A:=fun args=>match args with | [.box [.arr 51 a1,.arr 49 a2,.arr 9 a3,.arr 3 a4,.mp 107 4 a5]]=>fun k=>g a1 a2 a3 a4 a5 (fun z0 z1 z2 z3 z4 z5=>k (.mp 3 3 z0) [.box [.arr 51 z1,.arr 49 z2,.arr 9 z3,.arr 3 z4,.mp 107 4 z5]]) | _=>fun _=>none
def ykVy:SSt:=mkSh 26 12 [(0,.ptr 0 0),(3,.mp 6),(10,.own 49 8),(11,.int .i64),(12,.int .i64)] [(0,.box [.own 51 7,.own 49 8,.own 9 9,.own 3 10,.mp 5]),(5,.mp 107 4),(6,.mp 3 3),(7,.row 51),(8,.row 49),(9,.row 9),(10,.row 3)]
def yfny (g:Nat) (n:Nat):LPT A:=fun ps=>match ps with | [.d (.int .i64 p1),.d (.int .i64 p2),.mp 107 4 p3,.mp 3 3 p4,.d (.sl 51 p5),.d (.sl 49 p6),.d (.sl 9 p7),.d (.sl 3 p8)]=>fun K=>z34z_L3 g n p1 p2 p3 p4 p5 p6 p7 p8 (fun z0 z1 z2 z3 z4 z5=>K (.exit 0) (mkSt 26 12 [(0,.ptr 0 0),(3,.mp 6)] [(0,some (.box [.own 51 7,.own 49 8,.own 9 9,.own 3 10,.mp 5])),(5,some (.mp 107 4 z0)),(6,some (.mp 3 3 z1)),(7,some (.row 51 z2)),(8,some (.row 49 z3)),(9,some (.row 9 z4)),(10,some (.row 3 z5))])) | _=>fun _=>none
noncomputable def ypMy (g:Nat):Env A:=mkE [] [(5,[11]),(6,[6])] [(3,⟨[0,3,10,11,12],[],[0,5,6],[(0,0,51,7),(0,1,49,8),(0,2,9,9),(0,3,3,10)],[],[],[]⟩)] [(3,⟨[0,3],[],[0,5,6,7,8,9,10],[],[],[],[]⟩)] [(3,yafy ykVy (yfny g g))] [] [] [] [] [0]
theorem yHpy [Fuel]:yagy (ypMy NN).C:=ct_of (P:=Tryz.prog) (T:=T) .nil (by kernel_rfl)
noncomputable def yq4y:Code:=sub [1,1,0,1,0,0] ykFy
theorem yCBy (g:Nat) (n:Nat):yaly (ypMy g) g yq4y ykVy (yfny g) n:=by intro ps; unfold yfny; split; exact .inr fun R K=>(by kernel_rfl); exact .inl fun R K=>rfl
theorem yAmy [Fuel]:yaey (ypMy NN) NN yq4y:=yahy ykVy (yfny NN) (by kernel_rfl) yHpy (cuts0 (fun _=>rfl) (by kernel_rfl)) (fun ps R K=>by unfold yfny; split <;> (try unfold z34z_L3) <;> rfl) (yCBy NN)
theorem yHWy (g:Nat):Same (ym8y (@z34z_ g)) (abody (ypMy g) Tryz.f146 ykFy 12 [0,1,2,3,4,5] [.asis] g):=by intro args; unfold ym8y; split; exact .inr fun R k=>(by kernel_rfl); exact .inl fun R k=>rfl
theorem yz1y [Fuel]:Ok 146 (ym8y (@z34z _)):=yaay std .nil ⟨rfl,rfl,by kernel_rfl,rfl,rfl,rfl⟩ (yHWy NN) (cutsL (fun _=>rfl) (.cons yAmy .nil) (by kernel_rfl)) Tryz.func146 (by kernel_rfl) (by kernel_rfl)
abbrev T_z6z:Type 1:=List G_Deed→List G_Contact→List (List UInt8)→List Int→List (G_net_own×Bool)→{R:Type}→(List (Int×Int)→List G_Deed→List G_Contact→List (List UInt8)→List Int→List (G_net_own×Bool)→Option R)→Option R
noncomputable def z6z_L3 (g:Nat):Nat→List (G_net_own×Bool)→List (G_net_own×Bool)→List (Int×Int)→List G_Deed→List G_Contact→List (List UInt8)→List Int→{R:Type}→(List (G_net_own×Bool)→List (Int×Int)→List G_Deed→List G_Contact→List (List UInt8)→List Int→Option R)→Option R
 | 0,_,_,_,_,_,_,_,_,_=>none
 | n + 1,m11,l12,v6,v7,v8,v9,v10,_,e0=>(ydxy l12 (e0 m11 v6 v7 v8 v9 v10) fun x15 l16=>z6z_L3 g n m11 l16 (ydny x15.1.f_no (w64 (((yb6y x15.1.f_no v6).getD 0) + 1)) v6) v7 v8 v9 v10 e0)
noncomputable def yjty (g:Nat) (a1:List G_Deed) (a2:List G_Contact) (a3:List (List UInt8)) (a4:List Int) (a5:List (G_net_own×Bool)) {R:Type} (k0:List (Int×Int)→List G_Deed→List G_Contact→List (List UInt8)→List Int→List (G_net_own×Bool)→Option R):Option R :=
 (z6z_L3 g g a5 a5 [] a1 a2 a3 a4 (fun e17 e18 e19 e20 e21 e22=>k0 e18 e19 e20 e21 e22 e17))
def yoZy (p:IV A×List (IV A)):Option ((List (Int×Int))×(List G_Deed)×(List G_Contact)×(List (List UInt8))×(List Int)×(List (G_net_own×Bool))):=match p with | (.mp 3 3 b1,[.box [.arr 51 b2,.arr 49 b3,.arr 9 b4,.arr 3 b5,.mp 107 4 b6]])=>some (b1,b2,b3,b4,b5,b6) | _=>none
def yfXy (q:(List (Int×Int))×(List G_Deed)×(List G_Contact)×(List (List UInt8))×(List Int)×(List (G_net_own×Bool))):IV A×List (IV A):=(.mp 3 3 q.1,[.box [.arr 51 q.2.1,.arr 49 q.2.2.1,.arr 9 q.2.2.2.1,.arr 3 q.2.2.2.2.1,.mp 107 4 q.2.2.2.2.2]])
theorem yG3y (p:IV A×List (IV A)) (q:(List (Int×Int))×(List G_Deed)×(List G_Contact)×(List (List UInt8))×(List Int)×(List (G_net_own×Bool))) (h:yoZy p = some q):p = yfXy q:=by unfold yoZy at h; split at h; (cases h; rfl); cases h
noncomputable def z6z_ (g:Nat) (a1:List G_Deed) (a2:List G_Contact) (a3:List (List UInt8)) (a4:List Int) (a5:List (G_net_own×Bool)) {R:Type} (k0:List (Int×Int)→List G_Deed→List G_Contact→List (List UInt8)→List Int→List (G_net_own×Bool)→Option R):Option R :=
 (yjty g a1 a2 a3 a4 a5 (fun z0 z1 z2 z3 z4 z5=>some (yfXy (z0,z1,z2,z3,z4,z5)))).bind fun p=>(decK yoZy p (fun q=>k0 q.1 q.2.1 q.2.2.1 q.2.2.2.1 q.2.2.2.2.1 q.2.2.2.2.2) none)
noncomputable def z6z [Fuel]:T_z6z:=@z6z_ NN
def yfLy (g:T_z6z):Spec A:=fun args=>match args with | [.box [.arr 51 a1,.arr 49 a2,.arr 9 a3,.arr 3 a4,.mp 107 4 a5]]=>fun k=>g a1 a2 a3 a4 a5 (fun z0 z1 z2 z3 z4 z5=>k (.mp 3 3 z0) [.box [.arr 51 z1,.arr 49 z2,.arr 9 z3,.arr 3 z4,.mp 107 4 z5]]) | _=>fun _=>none
def ymqy:SSt:=mkSh 21 12 [(0,.ptr 0 0),(3,.mp 6),(9,.mp 5)] [(0,.box [.own 51 7,.own 49 8,.own 9 9,.own 3 10,.mp 5]),(5,.gone (2,0)),(6,.mp 3 3),(7,.row 51),(8,.row 49),(9,.row 9),(10,.row 3)]
noncomputable def ygYy (g:Nat) (n:Nat) (m l:List (A 107×A 4)):LPT A:=fun ps=>match ps with | [.mp 3 3 p1,.d (.sl 51 p2),.d (.sl 49 p3),.d (.sl 9 p4),.d (.sl 3 p5)]=>fun K=>z6z_L3 g n m l p1 p2 p3 p4 p5 (fun z0 z1 z2 z3 z4 z5=>K .normal (mkSt 21 12 [(0,.ptr 0 0),(3,.mp 6)] [(0,some (.box [.own 51 7,.own 49 8,.own 9 9,.own 3 10,.mp 5])),(5,some (.mp 107 4 z0)),(6,some (.mp 3 3 z1)),(7,some (.row 51 z2)),(8,some (.row 49 z3)),(9,some (.row 9 z4)),(10,some (.row 3 z5))])) | _=>fun _=>none
noncomputable def yoGy:Code:=(Tryz.f147.body).getD .skip
noncomputable def E_z6z (g:Nat):Env A:=mkE [] [(4,[11]),(5,[6])] [(3,⟨[0,3,9],[],[0,5,6],[(0,0,51,7),(0,1,49,8),(0,2,9,9),(0,3,3,10)],[],[],[]⟩)] [(3,⟨[0,3],[],[0,5,6,7,8,9,10],[],[],[],[]⟩)] [] [] [] [] [] [0]
noncomputable def yB0y (g:Nat):Nat→Option (ybvy A):=fun i=>List.lookup i [(3,ycUy 5 107 4 ymqy (ygYy g g))]
theorem ct_z6z [Fuel]:yagy (E_z6z NN).C:=ct_of (P:=Tryz.prog) (T:=T) .nil (by kernel_rfl)
noncomputable def ys8y:RangeP:=(ydBy (sub [1,1,0,0] yoGy) (sub [1,1,0,1] yoGy)).get (by kernel_rfl)
theorem yFGy (g:Nat) (n:Nat):yyBy (E_z6z g) g ys8y 5 107 4 ymqy (ygYy g) n:=by intro m l ps; unfold ygYy; split; exact .inr fun R K=>(by kernel_rfl); exact .inl fun R K=>rfl
theorem yCgy [Fuel]:ROk (E_z6z NN) (yB0y NN) NN ys8y:=yBDy ymqy (ygYy NN) (by kernel_rfl) (cuts0 (fun _=>rfl) (by kernel_rfl)) (fun m l ps R K=>by unfold ygYy; split <;> (try unfold z6z_L3) <;> rfl) (yFGy NN)
theorem yKQy (g:Nat):Same (yfLy (@yjty g)) (ymgy (E_z6z g) (yB0y g) Tryz.f147 yoGy 12 [0,1,2,3,4,5] [.asis] g):=by intro args; unfold yfLy; split; exact .inr fun R k=>(by kernel_rfl); exact .inl fun R k=>rfl
theorem yKpy (g:Nat):Whole (yfLy (@z6z_ g)) (yfLy (@yjty g)):=by
 intro args R k res h
 unfold yfLy at h
 split at h
 ·obtain ⟨p,hp,h⟩:=Option.bind_eq_some_iff.1 h
  exact ⟨p,hp,(yzey (inj:=yfXy) yG3y (fun h=>(by cases h)) h)⟩
 ·cases h
theorem yKyy (g:Nat):yaAy (yfLy (@z6z_ g)):=by
 intro args R k
 unfold yfLy
 split
 ·unfold z6z_
  rw [Option.bind_assoc]
  exact congrArg (Option.bind _) (funext fun p=>(yyny (inj:=yfXy) rfl))
 ·rfl
theorem yDmy [Fuel]:Ok 147 (yfLy (@z6z _)):=yKky std .nil ⟨rfl,rfl,by kernel_rfl,rfl,rfl,rfl⟩ (yKQy NN) (yKpy NN) (yKyy NN) (cutsR (fun _=>rfl) .nil (.cons yCgy .nil) (by kernel_rfl) (by kernel_rfl)) Tryz.func147 (by kernel_rfl) (by kernel_rfl)
end Go.Am
