/- The functions of the program as Lean functions, each shown to be what the code computes, part 6. No condition: lemmas for the claim. -/
import Derived.Test.YtfmhkakoakcpgaaGreatDoorF0
import Derived.Test.YtfmhkakoakcpgaaGreatDoorFSh
import Derived.Test.YtfmhkakoakcpgaaGreatDoorF1
import Derived.Test.YtfmhkakoakcpgaaGreatDoorF5
set_option linter.unusedVariables false
set_option maxRecDepth 100000
namespace Go.Am
open Go Go.Proofs
abbrev ypUy:Type 1:=List G_Deed→Int→{R:Type}→(List Int→Option R)→Option R
structure C_z12z where
 N:Nat
 z75z:yvLy
 z39z:yuby
def z12z_L6 (g:C_z12z):Nat→List G_Deed→Int→List (G_net_own×Bool)→List Int→{R:Type}→(Int→List (G_net_own×Bool)→List Int→Option R)→Option R
 | 0,y0,y1,y2,y3,_,e0=>e0 y1 y2 y3
 | n + 1,l7,v4,v5,v6,_,e0=>(match l7[n]? with | none=>none | some x8=>(bif (decide (x8.f_At > v4)) then z12z_L6 g n l7 v4 v5 v6 e0 else (bif ((ya1y (⟨x8.f_Site,x8.f_No⟩:G_net_own) v5).getD false) then z12z_L6 g n l7 v4 v5 v6 e0 else (bif (decide ((v6.length + [(n:Int)].length) * 8≤yady)) then (bif (x8.f_Kind == 5) then z12z_L6 g n l7 v4 (yaLy (⟨x8.f_Of,x8.f_Other⟩:G_net_own) true v5) (v6 ++ [(n:Int)]) e0 else z12z_L6 g n l7 v4 v5 (v6 ++ [(n:Int)]) e0) else none))))
noncomputable def ygey (g:C_z12z) (a1:List G_Deed) (a2:Int) {R:Type} (k0:List Int→Option R):Option R :=
 (g.z75z a1 (fun r3=>(bif decide (r3.length < 4611686018427387904) then (z12z_L6 g r3.length r3 a2 [] [] (fun e9 e10 e11=>(g.z39z e11 (fun r12=>k0 r12)))) else none)))
def ymIy (p:IV A×List (IV A)):Option ((List Int)):=match p with | (.arr 3 b1,[.undef,.undef])=>some (b1) | _=>none
def ydvy (q:(List Int)):IV A×List (IV A):=(.arr 3 q,[.undef,.undef])
theorem yD8y (p:IV A×List (IV A)) (q:(List Int)) (h:ymIy p = some q):p = ydvy q:=by unfold ymIy at h; split at h; (cases h; rfl); cases h
noncomputable def z12z_ (g:C_z12z) (a1:List G_Deed) (a2:Int) {R:Type} (k0:List Int→Option R):Option R :=
 (ygey g a1 a2 (fun z0=>some (ydvy (z0)))).bind fun p=>(decK ymIy p (fun q=>k0 q) none)
noncomputable def ybSy [Fuel]:C_z12z:=⟨NN,@z75z _,@z39z _⟩
noncomputable def z12z [Fuel]:ypUy:=@z12z_ ybSy
def ydby (g:ypUy):Spec A:=fun args=>match args with | [.d (.sl 41 a1),.d (.int .i64 a2)]=>fun k=>g a1 a2 (fun z0=>k (.arr 3 z0) [.undef,.undef]) | _=>fun _=>none
def yhsy:SSt:=mkSh 43 9 [(3,.ptr 0 0),(5,.ptr 2 0),(6,.ptr 3 0)] [(0,.box [.int .i64]),(1,.mp 70 4),(2,.box [.mp 1]),(3,.box [.own 3 5]),(5,.row 3)]
abbrev ycqy:Bw:=⟨107,26,41,3,4⟩
def ydOy (g:C_z12z) (n:Nat) (l:List (A (ycqy).tE)):LPT A:=fun ps=>match ps with | [.d (.int .i64 p1),.mp 70 4 p2,.d (.sl 3 p3)]=>fun K=>z12z_L6 g n l p1 p2 p3 (fun z0 z1 z2=>K .normal (mkSt 43 9 [(3,.ptr 0 0),(5,.ptr 2 0),(6,.ptr 3 0)] [(0,some (.box [.d (.int .i64 z0)])),(1,some (.mp 70 4 z1)),(2,some (.box [.mp 1])),(3,some (.box [.own 3 5])),(5,some (.row 3 z2))])) | _=>fun _=>none
noncomputable def yx7y:Code:=(Tryz.f36.body).getD .skip
noncomputable def ypqy (g:C_z12z):Env A:=mkE [(69,ynay g.z75z),(70,ynHy g.z39z)] [(3,[0]),(5,[2]),(6,[3]),(8,[6]),(9,[1]),(11,[4]),(29,[7]),(30,[8])] [(6,⟨[3,5,6],[],[0,1,2,3],[(3,0,3,5)],[],[],[]⟩)] [(6,⟨[3,5,6],[],[0,1,2,3],[],[],[],[]⟩)] [] [] [] [] [(70,0)] []
noncomputable def yxZy (g:C_z12z):Nat→Option (Nat→ybVy A (ycqy).tE):=fun i=>List.lookup i [(0,yDxy (ycqy).tE yhsy (ydOy g))]
def yrLy:Nat→List Nat:=fun i=>(List.lookup i [(0,[3,5,6])]).getD []
theorem ct_z12z [Fuel]:yamy (ypqy ybSy).C:=ct_of (P:=Tryz.prog) (T:=T) (.cons yzHy (.cons yzvy .nil)) (by kernel_rfl)
noncomputable def yxBy:BwP:=(bwP Tryz.f107.body).get (by kernel_rfl)
theorem yxLy:BwFine Tryz.prog T ycqy:=⟨yIFy (fn:=Tryz.f107) Tryz.func107 yxBy (by kernel_rfl) (by kernel_rfl) (by kernel_rfl) (by kernel_rfl) (by kernel_rfl) (by kernel_rfl) (by kernel_rfl) (by kernel_rfl) (by kernel_rfl),yaSy (fn:=Tryz.f107) Tryz.func107 (by kernel_rfl) (by kernel_rfl),by kernel_rfl,by kernel_rfl,fun x=>by kernel_rfl⟩
noncomputable def yk2y:RfP:=(rfOf (sub [1,1,1,0] yx7y)).get (by kernel_rfl)
theorem yCey (g:C_z12z):yzky (ycqy).tE yhsy (ydOy g):=by intro xs ps; unfold ydOy; split; exact .inr fun R K=>(by kernel_rfl); exact .inl fun R K=>rfl
theorem yB5y (g:C_z12z) (i:Nat):yyoy (ypqy g) g.N (yrLy (yk2y).B) yk2y (ycqy).tE yhsy (ydOy g) i:=by intro xs ps; unfold ydOy; split; exact .inr fun R K=>(by kernel_rfl); exact .inl fun R K=>rfl
theorem yBfy [Fuel]:BOk (ypqy ybSy) ycqy (yxZy ybSy) yrLy NN yk2y:=yBTy yhsy (ydOy ybSy) (by kernel_rfl) (cuts0 (fun _=>rfl) (by kernel_rfl)) (cuts0 (fun _=>rfl) (by kernel_rfl)) (yCey ybSy) (yB5y ybSy)
theorem yHLy (g:C_z12z):Same (ydby (@ygey g)) (ymfy (ypqy g) ycqy (yxZy g) yrLy Tryz.f36 yx7y 9 [] [.arr 3] g.N):=by intro args; unfold ydby; split; exact .inr fun R k=>(by kernel_rfl); exact .inl fun R k=>rfl
theorem yIUy (g:C_z12z):Whole (ydby (@z12z_ g)) (ydby (@ygey g)):=by
 intro args R k res h
 unfold ydby at h
 split at h
 ·obtain ⟨p,hp,h⟩:=Option.bind_eq_some_iff.1 h
  exact ⟨p,hp,(yyJy (inj:=ydvy) yD8y (fun h=>(by cases h)) h)⟩
 ·cases h
theorem yI8y (g:C_z12z):yaWy (ydby (@z12z_ g)):=by
 intro args R k
 unfold ydby
 split
 ·unfold z12z_
  rw [Option.bind_assoc]
  exact congrArg (Option.bind _) (funext fun p=>(yx9y (inj:=ydvy) rfl))
 ·rfl
theorem yrBy [Fuel]:Ok 36 (ydby (@z12z _)):=yJXy std (.cons yzHy (.cons yzvy .nil)) ⟨rfl,rfl,by kernel_rfl,rfl,rfl,rfl⟩ yxLy (yHLy ybSy) (yIUy ybSy) (yI8y ybSy) (cutsB (fun _=>rfl) .nil (.cons yBfy .nil) (by kernel_rfl) (by kernel_rfl)) Tryz.func36 (by kernel_rfl) (by kernel_rfl)
abbrev ymby:Type 1:=G_Contact→{R:Type}→(G_Contact→Option R)→Option R
def ywpy (g:Nat) (a1:G_Contact) {R:Type} (k0:G_Contact→Option R):Option R :=
 k0 (⟨a1.f_At,a1.f_Mode,a1.f_Band,a1.f_Call,0,0,[],[]⟩:G_Contact)
noncomputable def net_key [Fuel]:ymby:=@ywpy NN
def yhky (g:ymby):Spec A:=fun args=>match args with | [.agg [.d (.int .i64 a1),.d (.int .i64 a2),.d (.str a3),.d (.str a4),.d (.int .i64 a5),.d (.int .i64 a6),.d (.str a7),.d (.str a8)]]=>fun k=>g ⟨a1,a2,a3,a4,a5,a6,a7,a8⟩ (fun z0=>k (.agg [.d (.int .i64 z0.f_At),.d (.int .i64 z0.f_Mode),.d (.str z0.f_Band),.d (.str z0.f_Call),.d (.int .i64 z0.f_Sent),.d (.int .i64 z0.f_Heard),.d (.str z0.f_Gave),.d (.str z0.f_Got)]) [.undef]) | _=>fun _=>none
noncomputable def yFpy:Code:=(Tryz.f61.body).getD .skip
noncomputable def yC1y (g:Nat):Env A:=mkE [] [(1,[0]),(2,[1])] [] [] [] [] [] [] [] []
theorem yAOy (g:Nat):Same (yhky (@ywpy g)) (abody (yC1y g) Tryz.f61 yFpy 2 [] [.asis] g):=by intro args; unfold yhky; split; exact .inr fun R k=>(by kernel_rfl); exact .inl fun R k=>rfl
theorem ypLy [Fuel]:Ok 61 (yhky (@net_key _)):=yacy std .nil ⟨rfl,rfl,by kernel_rfl,rfl,rfl,rfl⟩ (yAOy NN) (cuts0 (fun _=>rfl) (by kernel_rfl)) Tryz.func61 (by kernel_rfl) (by kernel_rfl)
abbrev ywny:Type 1:=G_Contact→G_Contact→{R:Type}→(Int→Option R)→Option R
structure C_z42z where
 N:Nat
 z25z:yidy
 z26z:yjNy
 strings_Compare:ybcy
def z42z_ (g:C_z42z) (a1 a2:G_Contact) {R:Type} (k0:Int→Option R):Option R :=
 (g.z26z a1.f_At a2.f_At (fun r3=>(g.strings_Compare a1.f_Call a2.f_Call (fun r4=>(g.strings_Compare a1.f_Band a2.f_Band (fun r5=>(g.z26z a1.f_Mode a2.f_Mode (fun r6=>(g.z25z [r3,r4,r5,r6] (fun r7=>k0 r7))))))))))
noncomputable def yqty [Fuel]:C_z42z:=⟨NN,@z25z _,@z26z _,@strings_Compare _⟩
noncomputable def z42z [Fuel]:ywny:=@z42z_ yqty
def yePy (g:ywny):Spec A:=fun args=>match args with | [.agg [.d (.int .i64 a1),.d (.int .i64 a2),.d (.str a3),.d (.str a4),.d (.int .i64 a5),.d (.int .i64 a6),.d (.str a7),.d (.str a8)],.agg [.d (.int .i64 a9),.d (.int .i64 a10),.d (.str a11),.d (.str a12),.d (.int .i64 a13),.d (.int .i64 a14),.d (.str a15),.d (.str a16)]]=>fun k=>g ⟨a1,a2,a3,a4,a5,a6,a7,a8⟩ ⟨a9,a10,a11,a12,a13,a14,a15,a16⟩ (fun z0=>k (.d (.int .i64 z0)) [.undef,.undef]) | _=>fun _=>none
noncomputable def yy9y:Code:=(Tryz.f34.body).getD .skip
noncomputable def yJsy (g:C_z42z):Env A:=mkE [(57,ybZy g.z25z),(58,yb7y g.z26z),(59,yaFy g.strings_Compare)] [(2,[0]),(3,[1]),(25,[2])] [] [] [] [] [] [] [] []
theorem yGey (g:C_z42z):Same (yePy (@z42z_ g)) (abody (yJsy g) Tryz.f34 yy9y 3 [] [.asis] g.N):=by intro args; unfold yePy; split; exact .inr fun R k=>(by kernel_rfl); exact .inl fun R k=>rfl
theorem yzry [Fuel]:Ok 34 (yePy (@z42z _)):=yacy std (.cons yhyy (.cons ynGy (.cons ybky .nil))) ⟨rfl,rfl,by kernel_rfl,rfl,rfl,rfl⟩ (yGey yqty) (cuts0 (fun _=>rfl) (by kernel_rfl)) Tryz.func34 (by kernel_rfl) (by kernel_rfl)
noncomputable def yGty (g:C_z42z):Env A:=mkED [(57,ybZy g.z25z),(58,yb7y g.z26z),(59,yaFy g.strings_Compare)] [(2,[0]),(3,[1]),(25,[2])] [] [] [] [] [] [] [] []
theorem yECy (g:C_z42z):Same (yePy (@z42z_ g)) (abody (yGty g) Tryz.f34 yy9y 3 [] [.asis] g.N):=by intro args; unfold yePy; split; exact .inr fun R k=>(by kernel_rfl); exact .inl fun R k=>rfl
theorem yuUy [Fuel]:OkD 34 (yePy (@z42z _)):=yacy stdD (.cons yoVy (.cons yoGy (.cons ydjy .nil))) ⟨rfl,rfl,by kernel_rfl,rfl,rfl,rfl⟩ (yECy yqty) (cuts0 (fun _=>rfl) (by kernel_rfl)) Tryz.func34 (by kernel_rfl) (by kernel_rfl)
abbrev ywly:Type 1:=List G_Contact→{R:Type}→(List G_Contact→Option R)→Option R
noncomputable def z34z [Fuel]:ywly:=@ybJy G_Contact (@z42z _)
def yjUy (g:ywly):Spec A:=fun args=>match args with | [.arr 39 a1,.fn 34 []]=>fun k=>g a1 (fun z=>k (.tup []) [.arr 39 z,.fn 34 []]) | _=>fun _=>none
theorem yzDy [Fuel] (xs:List (A 39)) (R:Type) (k:IV A→List (IV A)→Option R):yjUy (@z34z _) [.arr 39 xs,.fn 34 []] k = ybJy (α:=A 39) (@z42z _) xs (fun z=>k (.tup []) [.arr 39 z,.fn 34 []]):=by kernel_rfl
theorem yy1y [Fuel] (args:List (IV A)) (R:Type) (k:IV A→List (IV A)→Option R) (h:∀ xs:List (A 39),args ≠ [.arr 39 xs,.fn 34 []]):yjUy (@z34z _) args k = none:=by unfold yjUy; split; exact absurd rfl (h _); rfl
theorem yGxy [Fuel] (x y:A 39) (R:Type) (k:Int→Option R):yjhy T (yePy (@z42z _)) 39 x y k = @z42z _ x y R k:=by kernel_rfl
theorem yHvy (x:G_Contact):(ynBy x).all scal = true:=rfl
theorem yyiy [Fuel]:Ok 62 (yjUy (@z34z _)):=⟨yguy (tyOk Tryz.prog) (e:=39) Tryz.sortf62 Tryz.isAgg39 Tryz.sizeOf39 (fun x d hd=>List.all_eq_true.1 (yHvy x) d hd) yGxy yuUy.fs yuUy.en yzDy yy1y,yk8y (e:=39) yzDy yy1y,yaSy (fn:=Tryz.f62) Tryz.func62 (by kernel_rfl) (by kernel_rfl)⟩
abbrev yp9y:Type 1:=List G_Deed→Int→{R:Type}→(Int→Option R)→(List G_Deed→List G_Contact→List (List UInt8)→List Int→List (G_net_own×Bool)→Int→Option R)→Option R
structure C_z16z where
 N:Nat
 z12z:ypUy
 net_key:ymby
 z34z:ywly
def z16z_L4 (g:C_z16z):Nat→List G_Deed→Int→Int→List (G_net_own×Bool)→List (G_Contact×G_Deed)→List Int→List G_Deed→List G_Contact→List (List UInt8)→List Int→{R:Type}→(List (G_net_own×Bool)→List (G_Contact×G_Deed)→List G_Deed→List G_Contact→List (List UInt8)→List Int→Option R)→Option R
 | 0,_,_,_,_,_,_,_,_,_,_,_,_=>none
 | n + 1,v4,v5,v6,v7,v8,v9,v10,v11,v12,v13,_,e0=>(bif (decide (v6 < v5)) then (inr v9 v6 (at_ v9 v6 fun x26=>(get_ v4 x26 fun x27=>(bif (decide ((v10.length + [x27].length) * 176≤yady)) then (bif (x27.f_Kind == 3) then (bif (x27.f_Kind != 1) then z16z_L4 g n v4 v5 (w64 (v6 + 1)) (yaLy (⟨x27.f_Site,x27.f_Contact.f_Sent⟩:G_net_own) true v7) v8 v9 (v10 ++ [x27]) v11 v12 v13 e0 else (g.net_key x27.f_Contact (fun r28=>(bif (yaly r28 v8).isSome then (bif (decide ((v13.length + [x26].length) * 8≤yady)) then z16z_L4 g n v4 v5 (w64 (v6 + 1)) (yaLy (⟨x27.f_Site,x27.f_Contact.f_Sent⟩:G_net_own) true v7) v8 v9 (v10 ++ [x27]) v11 v12 (v13 ++ [x26]) e0 else none) else (g.net_key x27.f_Contact (fun r29=>(bif (decide ((v11.length + [x27.f_Contact].length) * 96≤yady)) then z16z_L4 g n v4 v5 (w64 (v6 + 1)) (yaLy (⟨x27.f_Site,x27.f_Contact.f_Sent⟩:G_net_own) true v7) (yaIy r29 x27 v8) v9 (v10 ++ [x27]) (v11 ++ [x27.f_Contact]) v12 v13 e0 else none))))))) else (bif (x27.f_Kind == 4) then (bif (x27.f_Kind == 4) then (bif (x27.f_Kind != 1) then z16z_L4 g n v4 v5 (w64 (v6 + 1)) (yaJy (⟨x27.f_Site,x27.f_Contact.f_Sent⟩:G_net_own) v7) v8 v9 (v10 ++ [x27]) v11 v12 v13 e0 else (g.net_key x27.f_Contact (fun r30=>(bif (yaly r30 v8).isSome then (bif (decide ((v13.length + [x26].length) * 8≤yady)) then z16z_L4 g n v4 v5 (w64 (v6 + 1)) (yaJy (⟨x27.f_Site,x27.f_Contact.f_Sent⟩:G_net_own) v7) v8 v9 (v10 ++ [x27]) v11 v12 (v13 ++ [x26]) e0 else none) else (g.net_key x27.f_Contact (fun r31=>(bif (decide ((v11.length + [x27.f_Contact].length) * 96≤yady)) then z16z_L4 g n v4 v5 (w64 (v6 + 1)) (yaJy (⟨x27.f_Site,x27.f_Contact.f_Sent⟩:G_net_own) v7) (yaIy r31 x27 v8) v9 (v10 ++ [x27]) (v11 ++ [x27.f_Contact]) v12 v13 e0 else none))))))) else (bif (x27.f_Kind != 1) then z16z_L4 g n v4 v5 (w64 (v6 + 1)) v7 v8 v9 (v10 ++ [x27]) v11 v12 v13 e0 else (g.net_key x27.f_Contact (fun r32=>(bif (yaly r32 v8).isSome then (bif (decide ((v13.length + [x26].length) * 8≤yady)) then z16z_L4 g n v4 v5 (w64 (v6 + 1)) v7 v8 v9 (v10 ++ [x27]) v11 v12 (v13 ++ [x26]) e0 else none) else (g.net_key x27.f_Contact (fun r33=>(bif (decide ((v11.length + [x27.f_Contact].length) * 96≤yady)) then z16z_L4 g n v4 v5 (w64 (v6 + 1)) v7 (yaIy r33 x27 v8) v9 (v10 ++ [x27]) (v11 ++ [x27.f_Contact]) v12 v13 e0 else none)))))))) else (bif (x27.f_Kind == 1) then (bif (x27.f_Kind != 1) then z16z_L4 g n v4 v5 (w64 (v6 + 1)) (yaJy (⟨x27.f_Site,x27.f_Contact.f_Sent⟩:G_net_own) v7) v8 v9 (v10 ++ [x27]) v11 v12 v13 e0 else (g.net_key x27.f_Contact (fun r34=>(bif (yaly r34 v8).isSome then (bif (decide ((v13.length + [x26].length) * 8≤yady)) then z16z_L4 g n v4 v5 (w64 (v6 + 1)) (yaJy (⟨x27.f_Site,x27.f_Contact.f_Sent⟩:G_net_own) v7) v8 v9 (v10 ++ [x27]) v11 v12 (v13 ++ [x26]) e0 else none) else (g.net_key x27.f_Contact (fun r35=>(bif (decide ((v11.length + [x27.f_Contact].length) * 96≤yady)) then z16z_L4 g n v4 v5 (w64 (v6 + 1)) (yaJy (⟨x27.f_Site,x27.f_Contact.f_Sent⟩:G_net_own) v7) (yaIy r35 x27 v8) v9 (v10 ++ [x27]) (v11 ++ [x27.f_Contact]) v12 v13 e0 else none))))))) else (bif (x27.f_Kind != 1) then z16z_L4 g n v4 v5 (w64 (v6 + 1)) v7 v8 v9 (v10 ++ [x27]) v11 v12 v13 e0 else (g.net_key x27.f_Contact (fun r36=>(bif (yaly r36 v8).isSome then (bif (decide ((v13.length + [x26].length) * 8≤yady)) then z16z_L4 g n v4 v5 (w64 (v6 + 1)) v7 v8 v9 (v10 ++ [x27]) v11 v12 (v13 ++ [x26]) e0 else none) else (g.net_key x27.f_Contact (fun r37=>(bif (decide ((v11.length + [x27.f_Contact].length) * 96≤yady)) then z16z_L4 g n v4 v5 (w64 (v6 + 1)) v7 (yaIy r37 x27 v8) v9 (v10 ++ [x27]) (v11 ++ [x27.f_Contact]) v12 v13 e0 else none)))))))))) else none)))) else e0 v7 v8 v10 v11 v12 v13)
def z16z_L25 (g:C_z16z):Nat→Int→Int→List (G_net_own×Bool)→List (G_Contact×G_Deed)→List G_Deed→List G_Contact→List (List UInt8)→List Int→{R:Type}→(List (G_net_own×Bool)→List G_Deed→List G_Contact→List (List UInt8)→List Int→Option R)→Option R
 | 0,_,_,_,_,_,_,_,_,_,_=>none
 | n + 1,v45,v46,v47,v48,v49,v50,v51,v52,_,e0=>(bif (decide (v46 < v45)) then (inr v50 v46 (at_ v50 v46 fun x55=>(g.net_key x55 (fun r56=>(bif (decide ((v51.length + [((yaly r56 v48).getD (⟨[],0,0,0,(⟨0,0,[],[],0,0,[],[]⟩:G_Contact),[],[],0⟩:G_Deed)).f_Site].length) * 16≤yady)) then z16z_L25 g n v45 (w64 (v46 + 1)) v47 v48 v49 v50 (v51 ++ [((yaly r56 v48).getD (⟨[],0,0,0,(⟨0,0,[],[],0,0,[],[]⟩:G_Contact),[],[],0⟩:G_Deed)).f_Site]) v52 e0 else none))))) else e0 v47 v49 v50 v51 v52)
def z16z_ (g:C_z16z) (a1:List G_Deed) (a2:Int) {R:Type} (k0:Int→Option R) (k1:List G_Deed→List G_Contact→List (List UInt8)→List Int→List (G_net_own×Bool)→Int→Option R):Option R :=
 (g.z12z a1 a2 (fun r3=>(z16z_L4 g g.N a1 (r3.length:Int) 0 [] [] r3 [] [] [] [] (fun e38 e39 e40 e41 e42 e43=>(bif (decide ((e41.length:Int) > 2000)) then k0 2 else (g.z34z e41 (fun r44=>(z16z_L25 g g.N (r44.length:Int) 0 e38 e39 e40 r44 e42 e43 (fun e57 e58 e59 e60 e61=>k1 e58 e59 e60 e61 e57 0)))))))))
noncomputable def ybfy [Fuel]:C_z16z:=⟨NN,@z12z _,@net_key _,@z34z _⟩
noncomputable def z16z [Fuel]:yp9y:=@z16z_ ybfy
def yjPy (g:yp9y):Spec A:=fun args=>match args with | [.d (.sl 41 a1),.d (.int .i64 a2)]=>fun k=>g a1 a2 (fun z0=>k (.tup [.d (.lit (.pointer none)),.d (.int .i64 z0)]) [.undef,.undef]) (fun z0 z1 z2 z3 z4 z5=>k (.tup [.box [.arr 41 z0,.arr 39 z1,.arr 9 z2,.arr 3 z3,.mp 70 4 z4],.d (.int .i64 z5)]) [.undef,.undef]) | _=>fun _=>none
def ylgy:SSt:=mkSh 143 23 [(0,.sl 41),(6,.ptr 1 0),(7,.mp 2),(21,.own 3 3),(22,.int .i64),(23,.int .i64)] [(0,.mp 70 4),(1,.box [.own 41 4,.own 39 5,.own 9 6,.own 3 7,.mp 0]),(2,.mp 39 41),(3,.row 3),(4,.row 41),(5,.row 39),(6,.row 9),(7,.row 3)]
def yfPy (g:C_z16z) (n:Nat):LPT A:=fun ps=>match ps with | [.d (.sl 41 p1),.d (.int .i64 p2),.d (.int .i64 p3),.mp 70 4 p4,.mp 39 41 p5,.d (.sl 3 p6),.d (.sl 41 p7),.d (.sl 39 p8),.d (.sl 9 p9),.d (.sl 3 p10)]=>fun K=>z16z_L4 g n p1 p2 p3 p4 p5 p6 p7 p8 p9 p10 (fun z0 z1 z2 z3 z4 z5=>K (.exit 0) (mkSt 143 23 [(6,.ptr 1 0),(7,.mp 2)] [(0,some (.mp 70 4 z0)),(1,some (.box [.own 41 4,.own 39 5,.own 9 6,.own 3 7,.mp 0])),(2,some (.mp 39 41 z1)),(4,some (.row 41 z2)),(5,some (.row 39 z3)),(6,some (.row 9 z4)),(7,some (.row 3 z5))])) | _=>fun _=>none
def yiPy:SSt:=mkSh 143 23 [(6,.ptr 1 0),(7,.mp 2),(121,.own 39 17),(122,.int .i64),(123,.int .i64)] [(0,.mp 70 4),(1,.box [.own 41 16,.own 39 17,.own 9 18,.own 3 19,.mp 0]),(2,.mp 39 41),(16,.row 41),(17,.row 39),(18,.row 9),(19,.row 3)]
def ydZy (g:C_z16z) (n:Nat):LPT A:=fun ps=>match ps with | [.d (.int .i64 p1),.d (.int .i64 p2),.mp 70 4 p3,.mp 39 41 p4,.d (.sl 41 p5),.d (.sl 39 p6),.d (.sl 9 p7),.d (.sl 3 p8)]=>fun K=>z16z_L25 g n p1 p2 p3 p4 p5 p6 p7 p8 (fun z0 z1 z2 z3 z4=>K (.exit 3) (mkSt 143 23 [(6,.ptr 1 0)] [(0,some (.mp 70 4 z0)),(1,some (.box [.own 41 16,.own 39 17,.own 9 18,.own 3 19,.mp 0])),(16,some (.row 41 z1)),(17,some (.row 39 z2)),(18,some (.row 9 z3)),(19,some (.row 3 z4))])) | _=>fun _=>none
noncomputable def yrAy:Code:=(Tryz.f28.body).getD .skip
noncomputable def yjny (g:C_z16z):Env A:=mkE [(36,ydby g.z12z),(61,yhky g.net_key),(62,yjUy g.z34z)] [(10,[8]),(11,[11]),(14,[20]),(15,[0]),(17,[1]),(18,[2]),(21,[3]),(37,[9]),(38,[10]),(86,[12]),(87,[13]),(102,[14]),(103,[15]),(137,[21]),(138,[22])] [(4,⟨[0,6,7,21,22,23],[],[0,1,2,3],[(1,0,41,4),(1,1,39,5),(1,2,9,6),(1,3,3,7)],[],[],[]⟩),(25,⟨[6,7,121,122,123],[],[0,1,2],[(1,0,41,16),(1,1,39,17),(1,2,9,18),(1,3,3,19)],[],[],[]⟩)] [(4,⟨[6,7],[],[0,1,2,4,5,6,7],[],[],[],[]⟩),(25,⟨[6],[],[0,1,16,17,18,19],[],[],[],[]⟩)] [(4,yaiy ylgy (yfPy g g.N)),(25,yaiy yiPy (ydZy g g.N))] [] [] [] [(62,0)] []
theorem yyay [Fuel]:yamy (yjny ybfy).C:=ct_of (P:=Tryz.prog) (T:=T) (.cons yrBy (.cons ypLy (.cons yyiy .nil))) (by kernel_rfl)
noncomputable def ypAy:Code:=sub [1,1,1,0,1,0,0] yrAy
theorem yDcy (g:C_z16z) (n:Nat):yaoy (yjny g) g.N ypAy ylgy (yfPy g) n:=by intro ps; unfold yfPy; split; exact .inr fun R K=>(by kernel_rfl); exact .inl fun R K=>rfl
theorem yAZy [Fuel]:yahy (yjny ybfy) NN ypAy:=yaky ylgy (yfPy ybfy) (by kernel_rfl) yyay (cuts0 (fun _=>rfl) (by kernel_rfl)) (fun ps R K=>by unfold yfPy; split <;> (try unfold z16z_L4) <;> rfl) (yDcy ybfy)
noncomputable def youy:Code:=sub [1,1,1,1,1,1,0,1,0,0] yrAy
theorem yAjy (g:C_z16z) (n:Nat):yaoy (yjny g) g.N youy yiPy (ydZy g) n:=by intro ps; unfold ydZy; split; exact .inr fun R K=>(by kernel_rfl); exact .inl fun R K=>rfl
theorem yxly [Fuel]:yahy (yjny ybfy) NN youy:=yaky yiPy (ydZy ybfy) (by kernel_rfl) yyay (cuts0 (fun _=>rfl) (by kernel_rfl)) (fun ps R K=>by unfold ydZy; split <;> (try unfold z16z_L25) <;> rfl) (yAjy ybfy)
theorem yFXy (g:C_z16z):Same (yjPy (@z16z_ g)) (abody (yjny g) Tryz.f28 yrAy 23 [] [.asis,.asis] g.N):=by intro args; unfold yjPy; split; exact .inr fun R k=>(by kernel_rfl); exact .inl fun R k=>rfl
theorem yrYy [Fuel]:Ok 28 (yjPy (@z16z _)):=yacy std (.cons yrBy (.cons ypLy (.cons yyiy .nil))) ⟨rfl,rfl,by kernel_rfl,rfl,rfl,rfl⟩ (yFXy ybfy) (cutsL (fun _=>rfl) (.cons yAZy (.cons yxly .nil)) (by kernel_rfl)) Tryz.func28 (by kernel_rfl) (by kernel_rfl)
abbrev yjXy:Type 1:=List G_Deed→Int→{R:Type}→(Int→Option R)→(List G_Deed→List G_Contact→List (List UInt8)→List Int→List (G_net_own×Bool)→Int→Option R)→Option R
structure C_z53z where
 N:Nat
 z16z:yp9y
 z62z:yqLy
def z53z_ (g:C_z53z) (a1:List G_Deed) (a2:Int) {R:Type} (k0:Int→Option R) (k1:List G_Deed→List G_Contact→List (List UInt8)→List Int→List (G_net_own×Bool)→Int→Option R):Option R :=
 (g.z62z a1 a2 (fun r3=>(bif (r3 != 0) then k0 r3 else (g.z16z a1 a2 (fun r4=>k0 r4) (fun r5 r6 r7 r8 r9 r10=>k1 r5 r6 r7 r8 r9 r10)))))
noncomputable def yiby [Fuel]:C_z53z:=⟨NN,@z16z _,@z62z _⟩
noncomputable def z53z [Fuel]:yjXy:=@z53z_ yiby
def yf8y (g:yjXy):Spec A:=fun args=>match args with | [.d (.sl 41 a1),.d (.int .i64 a2)]=>fun k=>g a1 a2 (fun z0=>k (.tup [.d (.lit (.pointer none)),.d (.int .i64 z0)]) [.undef,.undef]) (fun z0 z1 z2 z3 z4 z5=>k (.tup [.box [.arr 41 z0,.arr 39 z1,.arr 9 z2,.arr 3 z3,.mp 70 4 z4],.d (.int .i64 z5)]) [.undef,.undef]) | _=>fun _=>none
noncomputable def yHTy:Code:=(Tryz.f21.body).getD .skip
noncomputable def yJuy (g:C_z53z):Env A:=mkE [(28,yjPy g.z16z),(35,yj7y g.z62z)] [(15,[0,1,2,3,4,5])] [] [] [] [] [] [] [] []
theorem yGUy (g:C_z53z):Same (yf8y (@z53z_ g)) (abody (yJuy g) Tryz.f21 yHTy 6 [] [.asis,.asis] g.N):=by intro args; unfold yf8y; split; exact .inr fun R k=>(by kernel_rfl); exact .inl fun R k=>rfl
theorem ymYy [Fuel]:Ok 21 (yf8y (@z53z _)):=yacy std (.cons yrYy (.cons yycy .nil)) ⟨rfl,rfl,by kernel_rfl,rfl,rfl,rfl⟩ (yGUy yiby) (cuts0 (fun _=>rfl) (by kernel_rfl)) Tryz.func21 (by kernel_rfl) (by kernel_rfl)
abbrev yl1y:Type 1:=List G_Deed→Int→{R:Type}→(List G_Contact→List Int→Int→Option R)→Option R
structure C_net_Log where
 N:Nat
 z53z:yjXy
def ykGy (g:C_net_Log) (a1:List G_Deed) (a2:Int) {R:Type} (k0:List G_Contact→List Int→Int→Option R):Option R :=
 (g.z53z a1 a2 (fun r3=>(bif (r3 != 0) then k0 [] [] r3 else none)) (fun r4 r5 r6 r7 r8 r9=>(bif (r9 != 0) then k0 [] [] r9 else k0 r5 r7 0)))
noncomputable def yivy [Fuel]:C_net_Log:=⟨NN,@z53z _⟩
noncomputable def net_Log [Fuel]:yl1y:=@ykGy yivy
def yhmy (g:yl1y):Spec A:=fun args=>match args with | [.d (.sl 41 a1),.d (.int .i64 a2)]=>fun k=>g a1 a2 (fun z0 z1 z2=>k (.tup [.arr 39 z0,.arr 3 z1,.d (.int .i64 z2)]) [.undef,.undef]) | _=>fun _=>none
noncomputable def yKGy:Code:=(Tryz.f6.body).getD .skip
noncomputable def yBJy (g:C_net_Log):Env A:=mkE [(21,yf8y g.z53z)] [(12,[0,1,2,3,4,5])] [] [] [] [] [] [] [] []
theorem yAby (g:C_net_Log):Same (yhmy (@ykGy g)) (abody (yBJy g) Tryz.f6 yKGy 6 [] [.arr 39,.arr 3,.asis] g.N):=by intro args; unfold yhmy; split; exact .inr fun R k=>(by kernel_rfl); exact .inl fun R k=>rfl
theorem yp3y [Fuel]:Ok 6 (yhmy (@net_Log _)):=yacy std (.cons ymYy .nil) ⟨rfl,rfl,by kernel_rfl,rfl,rfl,rfl⟩ (yAby yivy) (cuts0 (fun _=>rfl) (by kernel_rfl)) Tryz.func6 (by kernel_rfl) (by kernel_rfl)
abbrev ywxy:Type 1:={R:Type}→Option R
def z69z_ (g:Nat)  {R:Type}  : Option R :=
 none
noncomputable def z69z [Fuel]:ywxy:=@z69z_ NN
def ynsy (g:ywxy):Spec A:=fun args=>match args with | [.d (.lit (.pointer none))]=>fun k=>g | _=>fun _=>none
noncomputable def ynuy:Code:=(Tryz.f52.body).getD .skip
noncomputable def yCLy (g:Nat):Env A:=mkE [] [(6,[0])] [] [] [] [] [] [] [] []
noncomputable def yz9y:Code:=sub [1,1,0,1,0,0] ynuy
theorem yAfy [Fuel]:yahy (yCLy NN) NN yz9y:=yeEy (by kernel_rfl)
theorem yHSy (g:Nat):Same (ynsy (@z69z_ g)) (abody (yCLy g) Tryz.f52 ynuy 1 [] [.arr 9] g):=by intro args; unfold ynsy; split; exact .inr fun R k=>(by kernel_rfl); exact .inl fun R k=>rfl
theorem yGTy [Fuel]:Ok 52 (ynsy (@z69z _)):=yacy std .nil ⟨rfl,rfl,by kernel_rfl,rfl,rfl,rfl⟩ (yHSy NN) (cutsL (fun _=>rfl) (.cons yAfy .nil) (by kernel_rfl)) Tryz.func52 (by kernel_rfl) (by kernel_rfl)
abbrev yvsy:Type 1:={R:Type}→Option R
structure C_z51z where
 N:Nat
 z69z:ywxy
def z51z_ (g:C_z51z)  {R:Type}  : Option R :=
 (g.z69z)
noncomputable def ymHy [Fuel]:C_z51z:=⟨NN,@z69z _⟩
noncomputable def z51z [Fuel]:yvsy:=@z51z_ ymHy
def ynAy (g:yvsy):Spec A:=fun args=>match args with | [.d (.lit (.pointer none))]=>fun k=>g | _=>fun _=>none
noncomputable def yeHy:Code:=(Tryz.f22.body).getD .skip
noncomputable def yrby (g:C_z51z):Env A:=mkE [(52,ynsy g.z69z)] [] [] [] [] [] [] [] [] []
noncomputable def yAmy:Code:=sub [1,1,0,1,0,0,1,1,0,0,1,1,0,1,0,0] yeHy
theorem yBey [Fuel]:yahy (yrby ymHy) NN yAmy:=yeEy (by kernel_rfl)
noncomputable def yxEy:Code:=sub [1,1,0,1,0,0,1,1,0,0,1,1,1,0,1,0,0] yeHy
theorem yxry [Fuel]:yahy (yrby ymHy) NN yxEy:=yeEy (by kernel_rfl)
noncomputable def yBgy:Code:=sub [1,1,0,1,0,0] yeHy
theorem yAQy [Fuel]:yahy (yrby ymHy) NN yBgy:=yeEy (by kernel_rfl)
theorem yHxy (g:C_z51z):Same (ynAy (@z51z_ g)) (abody (yrby g) Tryz.f22 yeHy 0 [] [.arr 53] g.N):=by intro args; unfold ynAy; split; exact .inr fun R k=>(by kernel_rfl); exact .inl fun R k=>rfl
theorem yHqy [Fuel]:Ok 22 (ynAy (@z51z _)):=yacy std (.cons yGTy .nil) ⟨rfl,rfl,by kernel_rfl,rfl,rfl,rfl⟩ (yHxy ymHy) (cutsL (fun _=>rfl) (.cons yBey (.cons yxry (.cons yAQy .nil))) (by kernel_rfl)) Tryz.func22 (by kernel_rfl) (by kernel_rfl)
abbrev ywKy:Type 1:=List G_Deed→List G_Contact→List (List UInt8)→List Int→List (G_net_own×Bool)→{R:Type}→(List (List UInt8)→List G_Deed→List G_Contact→List (List UInt8)→List Int→List (G_net_own×Bool)→Option R)→Option R
def z24z_L3 (g:Nat):Nat→Int→Int→List (G_net_own×Bool)→List (List UInt8×Bool)→List G_Deed→List G_Contact→List (List UInt8)→List Int→{R:Type}→(List (G_net_own×Bool)→List (List UInt8×Bool)→List G_Deed→List G_Contact→List (List UInt8)→List Int→Option R)→Option R
 | 0,_,_,_,_,_,_,_,_,_,_=>none
 | n + 1,v6,v7,v8,v9,v10,v11,v12,v13,_,e0=>(bif (decide (v7 < v6)) then (inr v10 v7 (at_ v10 v7 fun x15=>z24z_L3 g n v6 (w64 (v7 + 1)) v8 (ya7y x15.f_Site true v9) v10 v11 v12 v13 e0)) else e0 v8 v9 v10 v11 v12 v13)
def z24z_ (g:Nat) (a1:List G_Deed) (a2:List G_Contact) (a3:List (List UInt8)) (a4:List Int) (a5:List (G_net_own×Bool)) {R:Type} (k0:List (List UInt8)→List G_Deed→List G_Contact→List (List UInt8)→List Int→List (G_net_own×Bool)→Option R):Option R :=
 (z24z_L3 g g (a1.length:Int) 0 a5 [] a1 a2 a3 a4 (fun e16 e17 e18 e19 e20 e21=>(keys_ (srtK9 (List.map (fun p=>p.1) e17)) fun x22=>k0 x22 e18 e19 e20 e21 e16)))
noncomputable def z24z [Fuel]:ywKy:=@z24z_ NN
def ynoy (g:ywKy):Spec A:=fun args=>match args with | [.box [.arr 41 a1,.arr 39 a2,.arr 9 a3,.arr 3 a4,.mp 70 4 a5]]=>fun k=>g a1 a2 a3 a4 a5 (fun z0 z1 z2 z3 z4 z5=>k (.arr 9 z0) [.box [.arr 41 z1,.arr 39 z2,.arr 9 z3,.arr 3 z4,.mp 70 4 z5]]) | _=>fun _=>none
def ykxy:SSt:=mkSh 23 14 [(0,.ptr 0 0),(3,.mp 6),(10,.own 41 7),(11,.int .i64),(12,.int .i64)] [(0,.box [.own 41 7,.own 39 8,.own 9 9,.own 3 10,.mp 5]),(5,.mp 70 4),(6,.mp 9 4),(7,.row 41),(8,.row 39),(9,.row 9),(10,.row 3)]
def yfsy (g:Nat) (n:Nat):LPT A:=fun ps=>match ps with | [.d (.int .i64 p1),.d (.int .i64 p2),.mp 70 4 p3,.mp 9 4 p4,.d (.sl 41 p5),.d (.sl 39 p6),.d (.sl 9 p7),.d (.sl 3 p8)]=>fun K=>z24z_L3 g n p1 p2 p3 p4 p5 p6 p7 p8 (fun z0 z1 z2 z3 z4 z5=>K (.exit 0) (mkSt 23 14 [(0,.ptr 0 0),(3,.mp 6)] [(0,some (.box [.own 41 7,.own 39 8,.own 9 9,.own 3 10,.mp 5])),(5,some (.mp 70 4 z0)),(6,some (.mp 9 4 z1)),(7,some (.row 41 z2)),(8,some (.row 39 z3)),(9,some (.row 9 z4)),(10,some (.row 3 z5))])) | _=>fun _=>none
noncomputable def yqfy (g:Nat):Env A:=mkE [] [(5,[11]),(6,[6]),(21,[12]),(22,[13])] [(3,⟨[0,3,10,11,12],[],[0,5,6],[(0,0,41,7),(0,1,39,8),(0,2,9,9),(0,3,3,10)],[],[],[]⟩)] [(3,⟨[0,3],[],[0,5,6,7,8,9,10],[],[],[],[]⟩)] [(3,yaiy ykxy (yfsy g g))] [] [] [] [] [0]
theorem yIoy [Fuel]:yamy (yqfy NN).C:=ct_of (P:=Tryz.prog) (T:=T) .nil (by kernel_rfl)
noncomputable def ypSy:Code:=sub [1,1,0,1,0,0] ynuy
theorem yBvy (g:Nat) (n:Nat):yaoy (yqfy g) g ypSy ykxy (yfsy g) n:=by intro ps; unfold yfsy; split; exact .inr fun R K=>(by kernel_rfl); exact .inl fun R K=>rfl
theorem yBiy [Fuel]:yahy (yqfy NN) NN ypSy:=yaky ykxy (yfsy NN) (by kernel_rfl) yIoy (cuts0 (fun _=>rfl) (by kernel_rfl)) (fun ps R K=>by unfold yfsy; split <;> (try unfold z24z_L3) <;> rfl) (yBvy NN)
theorem yFUy (g:Nat):Same (ynoy (@z24z_ g)) (abody (yqfy g) Tryz.f52 ynuy 14 [0,1,2,3,4,5] [.arr 9] g):=by intro args; unfold ynoy; split; exact .inr fun R k=>(by kernel_rfl); exact .inl fun R k=>rfl
theorem yyTy [Fuel]:Ok 52 (ynoy (@z24z _)):=yacy std .nil ⟨rfl,rfl,by kernel_rfl,rfl,rfl,rfl⟩ (yFUy NN) (cutsL (fun _=>rfl) (.cons yBiy .nil) (by kernel_rfl)) Tryz.func52 (by kernel_rfl) (by kernel_rfl)
end Go.Am
