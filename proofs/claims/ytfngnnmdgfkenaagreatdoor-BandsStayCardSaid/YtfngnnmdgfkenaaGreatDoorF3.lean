/- The functions of the program as Lean functions, each shown to be what the code computes, part 3. No condition: lemmas for the claim. -/
import Derived.Test.YtfngnnmdgfkenaaGreatDoorF0
import Derived.Test.YtfngnnmdgfkenaaGreatDoorFSh
import Derived.Test.YtfngnnmdgfkenaaGreatDoorF1
import Derived.Test.YtfngnnmdgfkenaaGreatDoorF2
set_option linter.unusedVariables false
set_option maxRecDepth 100000
namespace Go.Am
open Go Go.Proofs
abbrev T_z9z:Type 1:=G_Stream→{R:Type}→(List G_Busy→G_Stream→Option R)→Option R
structure C_z9z where
 N:Nat
 z74z:yhLy
 z79z:ykty
 z83z:ykRy
 Stream_Odd:ydvy
 z99z:yruy
 z35z:yyly
def z9z_L3 (g:C_z9z):Nat→Int→Int→G_Stream→List G_Busy→{R:Type}→(G_Stream→List G_Busy→Option R)→Option R
 | 0,_,_,_,_,_,_=>none
 | n + 1,v4,v5,v6,v7,_,e0=>(bif (decide (v5 < v4)) then (g.z83z v6 [[107,49,97,98],[111,104,50,97,98,99],[119,49,97,119],[107,49,97,98]] (fun r28 r29=>(g.z99z r29 90 320 (fun r30 r31=>(g.z79z r31 [1,2,3,20,50] (fun r32 r33=>(g.z79z r33 [0,10,40,60] (fun r34 r35=>(g.z79z r35 [10,50,100] (fun r36 r37=>(g.z74z r37 60 (fun r38 r39=>(bif r38 then (g.z83z r39 [r28,[]] (fun r40 r41=>(g.Stream_Odd r41 0 30000000000 (fun r42 r43=>(g.Stream_Odd r43 1 100000 (fun r44 r45=>(g.Stream_Odd r45 1 100 (fun r46 r47=>(bif (decide ((v7.length + [(⟨r40,r42,r44,(⟨r34,r46⟩:G_Window)⟩:G_Busy)].length) * 48≤yagy)) then z9z_L3 g n v4 (w64 (v5 + 1)) r47 (v7 ++ [(⟨r40,r42,r44,(⟨r34,r46⟩:G_Window)⟩:G_Busy)]) e0 else none))))))))) else (bif (decide ((v7.length + [(⟨r28,r30,r32,(⟨r34,(w64 (r34 + r36))⟩:G_Window)⟩:G_Busy)].length) * 48≤yagy)) then z9z_L3 g n v4 (w64 (v5 + 1)) r39 (v7 ++ [(⟨r28,r30,r32,(⟨r34,(w64 (r34 + r36))⟩:G_Window)⟩:G_Busy)]) e0 else none)))))))))))))) else e0 v6 v7)
def z9z_ (g:C_z9z) (a1:G_Stream) {R:Type} (k0:List G_Busy→G_Stream→Option R):Option R :=
 (g.z99z a1 0 6 (fun r2 r3=>(z9z_L3 g g.N r2 0 r3 [] (fun e48 e49=>(g.z35z e49 (fun r50=>k0 r50 e48))))))
noncomputable def I_z9z [Fuel]:C_z9z:=⟨NN,@z74z _,@z79z _,@z83z _,@Stream_Odd _,@z99z _,@z35z _⟩
noncomputable def z9z [Fuel]:T_z9z:=@z9z_ I_z9z
def ysDy (g:T_z9z):Spec A:=fun args=>match args with | [.box [.d (.sl 3 a1),.d (.int .i64 a2)]]=>fun k=>g ⟨a1,a2⟩ (fun z0 z1=>k (.arr 58 z0) [.box [.d (.sl 3 z1.f_L),.d (.int .i64 z1.f_at)]]) | _=>fun _=>none
def yn9y:SSt:=mkSh 57 10 [(0,.ptr 0 0),(3,.own 58 1),(6,.int .i64),(7,.int .i64)] [(0,.box [.sl 3,.int .i64]),(1,.row 58)]
def yhky (g:C_z9z) (n:Nat):LPT A:=fun ps=>match ps with | [.d (.int .i64 p1),.d (.int .i64 p2),.d (.sl 3 p3),.d (.int .i64 p4),.d (.sl 58 p5)]=>fun K=>z9z_L3 g n p1 p2 ⟨p3,p4⟩ p5 (fun z0 z1=>K (.exit 0) (mkSt 57 10 [(0,.ptr 0 0),(3,.own 58 1)] [(0,some (.box [.d (.sl 3 z0.f_L),.d (.int .i64 z0.f_at)])),(1,some (.row 58 z1))])) | _=>fun _=>none
noncomputable def yHDy:Code:=(Tryz.f5.body).getD .skip
noncomputable def E_z9z (g:C_z9z):Env A:=mkE [(21,yd3y g.z74z),(22,ygYy g.z79z),(24,ygEy g.z83z),(25,ycfy g.Stream_Odd),(29,ykxy g.z99z),(30,ypAy g.z35z)] [(4,[5]),(10,[2]),(15,[3]),(18,[4]),(26,[6]),(36,[7]),(51,[8]),(52,[9])] [(3,⟨[0,3,6,7],[(3,58,1)],[0],[],[],[],[]⟩)] [(3,⟨[0,3],[],[0,1],[],[],[],[]⟩)] [(3,yady yn9y (yhky g g.N))] [] [] [] [(30,0)] [0]
theorem yQSy [Fuel]:yahy (E_z9z I_z9z).C:=ct_of (P:=Tryz.prog) (T:=T) (.cons ydky (.cons ygRy (.cons ygGy (.cons ycby (.cons yvqy (.cons yDyy .nil)))))) (by kernel_rfl)
noncomputable def yv0y:Code:=sub [1,1,0,1,0,0] yHDy
theorem yJWy (g:C_z9z) (n:Nat):yaiy (E_z9z g) g.N yv0y yn9y (yhky g) n:=by intro ps; unfold yhky; split; exact .inr fun R K=>(by kernel_rfl); exact .inl fun R K=>rfl
theorem yH9y [Fuel]:yaby (E_z9z I_z9z) NN yv0y:=yacy yn9y (yhky I_z9z) (by kernel_rfl) yQSy (cuts0 (fun _=>rfl) (by kernel_rfl)) (fun ps R K=>by unfold yhky; split <;> (try unfold z9z_L3) <;> rfl) (yJWy I_z9z)
theorem yRky (g:C_z9z):Same (ysDy (@z9z_ g)) (abody (E_z9z g) Tryz.f5 yHDy 10 [0] [.arr 58] g.N):=by intro args; unfold ysDy; split; exact .inr fun R k=>(by kernel_rfl); exact .inl fun R k=>rfl
theorem yRNy [Fuel]:Ok 5 (ysDy (@z9z _)):=yaay std (.cons ydky (.cons ygRy (.cons ygGy (.cons ycby (.cons yvqy (.cons yDyy .nil)))))) ⟨rfl,rfl,by kernel_rfl,rfl,rfl,rfl⟩ (yRky I_z9z) (cutsL (fun _=>rfl) (.cons yH9y .nil) (by kernel_rfl)) Tryz.func5 (by kernel_rfl) (by kernel_rfl)
abbrev yuMy:Type 1:=G_Stream→{R:Type}→(List UInt8→G_Stream→Option R)→Option R
structure C_z105z where
 N:Nat
 z74z:yhLy
 z83z:ykRy
def z105z_ (g:C_z105z) (a1:G_Stream) {R:Type} (k0:List UInt8→G_Stream→Option R):Option R :=
 (g.z74z a1 60 (fun r2 r3=>(bif r2 then (g.z83z r3 [[],[107,49],[75,49,65,66],[107,49,97,98,47],[49,97],[107,49,97,98,47,109,109,47,112]] (fun r4 r5=>k0 r4 r5)) else (g.z83z r3 [[107,49,97,98],[107,49,97,97],[107,49,97,98,47,52],[111,104,50,97,98,99],[111,104,50,97,98,100],[119,49,97,119],[110,49,109,109],[103,51,120,121,122,47,112]] (fun r6 r7=>k0 r6 r7)))))
noncomputable def yoQy [Fuel]:C_z105z:=⟨NN,@z74z _,@z83z _⟩
noncomputable def z105z [Fuel]:yuMy:=@z105z_ yoQy
def ymny (g:yuMy):Spec A:=fun args=>match args with | [.box [.d (.sl 3 a1),.d (.int .i64 a2)]]=>fun k=>g ⟨a1,a2⟩ (fun z0 z1=>k (.d (.str z0)) [.box [.d (.sl 3 z1.f_L),.d (.int .i64 z1.f_at)]]) | _=>fun _=>none
noncomputable def yMcy:Code:=(Tryz.f54.body).getD .skip
noncomputable def yQdy (g:C_z105z):Env A:=mkE [(21,yd3y g.z74z),(24,ygEy g.z83z)] [(6,[1]),(9,[2])] [] [] [] [] [] [] [] [0]
theorem yJCy (g:C_z105z):Same (ymny (@z105z_ g)) (abody (yQdy g) Tryz.f54 yMcy 3 [0] [.asis] g.N):=by intro args; unfold ymny; split; exact .inr fun R k=>(by kernel_rfl); exact .inl fun R k=>rfl
theorem yxqy [Fuel]:Ok 54 (ymny (@z105z _)):=yaay std (.cons ydky (.cons ygGy .nil)) ⟨rfl,rfl,by kernel_rfl,rfl,rfl,rfl⟩ (yJCy yoQy) (cuts0 (fun _=>rfl) (by kernel_rfl)) Tryz.func54 (by kernel_rfl) (by kernel_rfl)
abbrev yuKy:Type 1:=List UInt8→{R:Type}→(Bool→Option R)→Option R
def z112z_ (g:Nat) (a1:List UInt8) {R:Type} (k0:Bool→Option R):Option R :=
 k0 (!(a1 == a1))
noncomputable def z112z [Fuel]:yuKy:=@z112z_ NN
def ymBy (g:yuKy):Spec A:=fun args=>match args with | [.d (.str a1)]=>fun k=>g a1 (fun z0=>k (.d (.bool z0)) [.undef]) | _=>fun _=>none
noncomputable def yJJy:Code:=(Tryz.f177.body).getD .skip
noncomputable def yLOy (g:Nat):Env A:=mkE [] [] [] [] [] [] [] [] [] []
theorem yJty (g:Nat):Same (ymBy (@z112z_ g)) (abody (yLOy g) Tryz.f177 yJJy 0 [] [.asis] g):=by intro args; unfold ymBy; split; exact .inr fun R k=>(by kernel_rfl); exact .inl fun R k=>rfl
theorem yKRy [Fuel]:Ok 177 (ymBy (@z112z _)):=yaay std .nil ⟨rfl,rfl,by kernel_rfl,rfl,rfl,rfl⟩ (yJty NN) (cuts0 (fun _=>rfl) (by kernel_rfl)) Tryz.func177 (by kernel_rfl) (by kernel_rfl)
abbrev yxay:Type 1:=List UInt8→List UInt8→{R:Type}→(Int→Option R)→Option R
structure C_z90z where
 N:Nat
 z112z:yuKy
def z90z_ (g:C_z90z) (a1 a2:List UInt8) {R:Type} (k0:Int→Option R):Option R :=
 (g.z112z a1 (fun r3=>(g.z112z a2 (fun r4=>(bif r3 then (bif r4 then k0 0 else k0 (-1)) else (bif r4 then k0 1 else (bif (Op.bytesLess a1 a2) then k0 (-1) else (bif (!(Op.bytesLess a1 a2 || a1 == a2)) then k0 1 else k0 0))))))))
noncomputable def yyKy [Fuel]:C_z90z:=⟨NN,@z112z _⟩
noncomputable def z90z [Fuel]:yxay:=@z90z_ yyKy
def ypHy (g:yxay):Spec A:=fun args=>match args with | [.d (.str a1),.d (.str a2)]=>fun k=>g a1 a2 (fun z0=>k (.d (.int .i64 z0)) [.undef,.undef]) | _=>fun _=>none
noncomputable def yKry:Code:=(Tryz.f142.body).getD .skip
noncomputable def yRcy (g:C_z90z):Env A:=mkE [(177,ymBy g.z112z)] [] [] [] [] [] [] [] [] []
theorem yMFy (g:C_z90z):Same (ypHy (@z90z_ g)) (abody (yRcy g) Tryz.f142 yKry 0 [] [.asis] g.N):=by intro args; unfold ypHy; split; exact .inr fun R k=>(by kernel_rfl); exact .inl fun R k=>rfl
theorem yEmy [Fuel]:Ok 142 (ypHy (@z90z _)):=yaay std (.cons yKRy .nil) ⟨rfl,rfl,by kernel_rfl,rfl,rfl,rfl⟩ (yMFy yyKy) (cuts0 (fun _=>rfl) (by kernel_rfl)) Tryz.func142 (by kernel_rfl) (by kernel_rfl)
abbrev yxey:Type 1:=List (List UInt8)→List (List UInt8)→{R:Type}→(Int→Option R)→Option R
structure C_z38z where
 N:Nat
 z90z:yxay
def z38z_L2 (g:C_z38z):Nat→List (List UInt8)→List (List UInt8)→List (List UInt8)→Int→Int→{R:Type}→(List (List UInt8)→List (List UInt8)→Int→Option R)→(List (List UInt8)→List (List UInt8)→Option R)→Option R
 | 0,_,_,_,_,_,_,_,_=>none
 | n + 1,v3,v4,v5,v6,v7,_,e0,e1=>(bif (decide (v7 < v6)) then (get_ v5 v7 fun x11=>(bif (decide (v7 ≥ (v4.length:Int))) then e0 v3 v4 1 else (get_ v4 v7 fun x12=>(g.z90z x11 x12 (fun r13=>(bif (r13 != 0) then e0 v3 v4 r13 else z38z_L2 g n v3 v4 v5 v6 (w64 (v7 + 1)) e0 e1)))))) else e1 v3 v4)
def z38z_ (g:C_z38z) (a1 a2:List (List UInt8)) {R:Type} (k0:Int→Option R):Option R :=
 (z38z_L2 g g.N a1 a2 a1 (a1.length:Int) 0 (fun e14 e15 e16=>k0 e16) (fun e17 e18=>(bif (decide ((e17.length:Int) < (e18.length:Int))) then k0 (-1) else k0 0)))
noncomputable def yhBy [Fuel]:C_z38z:=⟨NN,@z90z _⟩
noncomputable def z38z [Fuel]:yxey:=@z38z_ yhBy
def yo9y (g:yxey):Spec A:=fun args=>match args with | [.d (.sl 9 a1),.d (.sl 9 a2)]=>fun k=>g a1 a2 (fun z0=>k (.d (.int .i64 z0)) [.undef,.undef]) | _=>fun _=>none
def yloy:SSt:=mkSh 36 0 [(0,.sl 9),(1,.sl 9),(9,.sl 9),(10,.int .i64),(11,.int .i64)] []
def ye8y (g:C_z38z) (n:Nat):LPT A:=fun ps=>match ps with | [.d (.sl 9 p1),.d (.sl 9 p2),.d (.sl 9 p3),.d (.int .i64 p4),.d (.int .i64 p5)]=>fun K=>z38z_L2 g n p1 p2 p3 p4 p5 (fun z0 z1 z2=>K .ret (mkSt 36 0 [(0,.d (.sl 9 z0)),(1,.d (.sl 9 z1)),(4,.d (.int .i64 z2))] [])) (fun z0 z1=>K (.exit 0) (mkSt 36 0 [(0,.d (.sl 9 z0)),(1,.d (.sl 9 z1))] [])) | _=>fun _=>none
noncomputable def yAfy:Code:=(Tryz.f100.body).getD .skip
noncomputable def ytNy (g:C_z38z):Env A:=mkE [(142,ypHy g.z90z)] [] [(2,⟨[0,1,9,10,11],[],[],[],[],[],[]⟩)] [(2,⟨[0,1,4],[],[],[],[],[],[]⟩)] [(2,yady yloy (ye8y g g.N))] [] [] [] [] []
theorem yPTy [Fuel]:yahy (ytNy yhBy).C:=ct_of (P:=Tryz.prog) (T:=T) (.cons yEmy .nil) (by kernel_rfl)
noncomputable def ysPy:Code:=sub [1,0,1,0,0] yAfy
theorem yHoy (g:C_z38z) (n:Nat):yaiy (ytNy g) g.N ysPy yloy (ye8y g) n:=by intro ps; unfold ye8y; split; exact .inr fun R K=>(by kernel_rfl); exact .inl fun R K=>rfl
theorem yF8y [Fuel]:yaby (ytNy yhBy) NN ysPy:=yacy yloy (ye8y yhBy) (by kernel_rfl) yPTy (cuts0 (fun _=>rfl) (by kernel_rfl)) (fun ps R K=>by unfold ye8y; split <;> (try unfold z38z_L2) <;> rfl) (yHoy yhBy)
theorem yOYy (g:C_z38z):Same (yo9y (@z38z_ g)) (abody (ytNy g) Tryz.f100 yAfy 0 [] [.asis] g.N):=by intro args; unfold yo9y; split; exact .inr fun R k=>(by kernel_rfl); exact .inl fun R k=>rfl
theorem yPMy [Fuel]:Ok 100 (yo9y (@z38z _)):=yaay std (.cons yEmy .nil) ⟨rfl,rfl,by kernel_rfl,rfl,rfl,rfl⟩ (yOYy yhBy) (cutsL (fun _=>rfl) (.cons yF8y .nil) (by kernel_rfl)) Tryz.func100 (by kernel_rfl) (by kernel_rfl)
abbrev ys2y:Type 1:=G_Spot→G_Spot→{R:Type}→(Int→Option R)→Option R
structure C_z16z where
 N:Nat
 z27z:yn5y
 z38z:yxey
def z16z_ (g:C_z16z) (a1 a2:G_Spot) {R:Type} (k0:Int→Option R):Option R :=
 (g.z27z [a1.f_At,a1.f_Hertz] [a2.f_At,a2.f_Hertz] (fun r3=>(bif (r3 != 0) then k0 r3 else (g.z38z [a1.f_Call,a1.f_By] [a2.f_Call,a2.f_By] (fun r4=>k0 r4)))))
noncomputable def yyHy [Fuel]:C_z16z:=⟨NN,@z27z _,@z38z _⟩
noncomputable def z16z [Fuel]:ys2y:=@z16z_ yyHy
def ykQy (g:ys2y):Spec A:=fun args=>match args with | [.agg [.d (.int .i64 a1),.d (.int .i64 a2),.d (.str a3),.d (.str a4)],.agg [.d (.int .i64 a5),.d (.int .i64 a6),.d (.str a7),.d (.str a8)]]=>fun k=>g ⟨a1,a2,a3,a4⟩ ⟨a5,a6,a7,a8⟩ (fun z0=>k (.d (.int .i64 z0)) [.undef,.undef]) | _=>fun _=>none
noncomputable def yL2y:Code:=(Tryz.f56.body).getD .skip
noncomputable def yR0y (g:C_z16z):Env A:=mkE [(28,yily g.z27z),(100,yo9y g.z38z)] [(2,[0]),(3,[1]),(10,[2]),(15,[3]),(24,[4]),(29,[5])] [] [] [] [] [] [] [] []
theorem yPgy (g:C_z16z):Same (ykQy (@z16z_ g)) (abody (yR0y g) Tryz.f56 yL2y 6 [] [.asis] g.N):=by intro args; unfold ykQy; split; exact .inr fun R k=>(by kernel_rfl); exact .inl fun R k=>rfl
theorem ypdy [Fuel]:Ok 56 (ykQy (@z16z _)):=yaay std (.cons yuBy (.cons yPMy .nil)) ⟨rfl,rfl,by kernel_rfl,rfl,rfl,rfl⟩ (yPgy yyHy) (cuts0 (fun _=>rfl) (by kernel_rfl)) Tryz.func56 (by kernel_rfl) (by kernel_rfl)
abbrev yzMy:Type 1:=List G_Spot→Int→Int→{R:Type}→(List G_Spot→Option R)→Option R
structure C_z13z where
 N:Nat
 z16z:ys2y
def z13z_L4 (g:C_z13z):Nat→Int→Int→Int→Int→List G_Spot→{R:Type}→(Int→Int→Int→List G_Spot→Option R)→Option R
 | 0,_,_,_,_,_,_,_=>none
 | n + 1,v31,v32,v33,v34,v35,_,e0=>(bif (decide (v34 > v31)) then (inr v35 v34 (at_ v35 v34 fun x43=>(inr v35 (w64 (v34 - 1)) (at_ v35 (w64 (v34 - 1)) fun x44=>(g.z16z x43 x44 (fun r45=>(bif (decide (r45 < 0)) then (inr v35 (w64 (v34 - 1)) (at_ v35 (w64 (v34 - 1)) fun x46=>(inr v35 v34 (at_ v35 v34 fun x47=>(inr v35 v34 (at_ v35 v34 fun x48=>(inr (set_ v35 v34 x46) (w64 (v34 - 1)) (at_ (set_ v35 v34 x46) (w64 (v34 - 1)) fun x49=>z13z_L4 g n v31 v32 v33 (w64 (v34 - 1)) (set_ (set_ v35 v34 x46) (w64 (v34 - 1)) x47) e0)))))))) else e0 v31 v32 v33 v35))))))) else e0 v31 v32 v33 v35)
def z13z_L1 (g:C_z13z):Nat→Int→Int→Int→List G_Spot→{R:Type}→(List G_Spot→Option R)→Option R
 | 0,_,_,_,_,_,_=>none
 | n + 1,v4,v5,v6,v7,_,e0=>(bif (decide (v6 < v5)) then (z13z_L4 g g.N v4 v5 v6 v6 v7 (fun e50 e51 e52 e53=>z13z_L1 g n e50 e51 (w64 (e52 + 1)) e53 e0)) else e0 v7)
def z13z_ (g:C_z13z) (a1:List G_Spot) (a2 a3:Int) {R:Type} (k0:List G_Spot→Option R):Option R :=
 (z13z_L1 g g.N a2 a3 (w64 (a2 + 1)) a1 (fun e54=>k0 e54))
noncomputable def yeqy [Fuel]:C_z13z:=⟨NN,@z16z _⟩
noncomputable def z13z [Fuel]:yzMy:=@z13z_ yeqy
def yoRy (g:yzMy):Spec A:=fun args=>match args with | [.arr 45 a1,.d (.int .i64 a2),.d (.int .i64 a3),.fn 56 []]=>fun k=>g a1 a2 a3 (fun z0=>k (.tup []) [.arr 45 z0,.undef,.undef,.fn 56 []]) | _=>fun _=>none
def ylMy:SSt:=mkSh 53 1 [(0,.own 45 0),(1,.int .i64),(2,.int .i64),(3,.fn 56 []),(8,.int .i64),(9,.int .i64)] [(0,.row 45)]
def yfXy (g:C_z13z) (n:Nat):LPT A:=fun ps=>match ps with | [.d (.int .i64 p1),.d (.int .i64 p2),.d (.int .i64 p3),.d (.int .i64 p4),.d (.sl 45 p5)]=>fun K=>z13z_L4 g n p1 p2 p3 p4 p5 (fun z0 z1 z2 z3=>K (.exit 2) (mkSt 53 1 [(0,.own 45 0),(1,.d (.int .i64 z0)),(2,.d (.int .i64 z1)),(3,.fn 56 []),(8,.d (.int .i64 z2))] [(0,some (.row 45 z3))])) | _=>fun _=>none
def yley:SSt:=mkSh 53 1 [(0,.own 45 0),(1,.int .i64),(2,.int .i64),(3,.fn 56 []),(8,.int .i64)] [(0,.row 45)]
def ygyy (g:C_z13z) (n:Nat):LPT A:=fun ps=>match ps with | [.d (.int .i64 p1),.d (.int .i64 p2),.d (.int .i64 p3),.d (.sl 45 p4)]=>fun K=>z13z_L1 g n p1 p2 p3 p4 (fun z0=>K (.exit 0) (mkSt 53 1 [(0,.own 45 0),(3,.fn 56 [])] [(0,some (.row 45 z0))])) | _=>fun _=>none
noncomputable def ycWy:Code:=(Tryz.f112.body).getD .skip
noncomputable def ykSy (g:C_z13z):Env A:=mkE [(56,ykQy g.z16z)] [] [(4,⟨[0,1,2,3,8,9],[],[0],[],[],[],[]⟩),(1,⟨[0,1,2,3,8],[],[0],[],[],[],[]⟩)] [(4,⟨[0,1,2,3,8],[],[0],[],[],[],[]⟩),(1,⟨[0,3],[],[0],[],[],[],[]⟩)] [(4,yady ylMy (yfXy g g.N)),(1,yady yley (ygyy g g.N))] [] [] [] [] [0,3]
theorem yCEy [Fuel]:yahy (ykSy yeqy).C:=ct_of (P:=Tryz.prog) (T:=T) (.cons ypdy .nil) (by kernel_rfl)
noncomputable def yr0y:Code:=sub [1,0,0,1,0,0,1,0,0] ycWy
theorem yGyy (g:C_z13z) (n:Nat):yaiy (ykSy g) g.N yr0y ylMy (yfXy g) n:=by intro ps; unfold yfXy; split; exact .inr fun R K=>(by kernel_rfl); exact .inl fun R K=>rfl
theorem ys0y [Fuel]:yaby (ykSy yeqy) NN yr0y:=yacy ylMy (yfXy yeqy) (by kernel_rfl) yCEy (cuts0 (fun _=>rfl) (by kernel_rfl)) (fun ps R K=>by unfold yfXy; split <;> (try unfold z13z_L4) <;> rfl) (yGyy yeqy)
noncomputable def yrqy:Code:=sub [1,0,0] ycWy
theorem yHOy (g:C_z13z) (n:Nat):yaiy (ykSy g) g.N yrqy yley (ygyy g) n:=by intro ps; unfold ygyy; split; exact .inr fun R K=>(by kernel_rfl); exact .inl fun R K=>rfl
theorem yFuy [Fuel]:yaby (ykSy yeqy) NN yrqy:=yacy yley (ygyy yeqy) (by kernel_rfl) yCEy (cutsL (fun _=>rfl) (.cons ys0y .nil) (by kernel_rfl)) (fun ps R K=>by unfold ygyy; split <;> (try unfold z13z_L1) <;> rfl) (yHOy yeqy)
theorem yO6y (g:C_z13z):Same (yoRy (@z13z_ g)) (abody (ykSy g) Tryz.f112 ycWy 1 [0] [] g.N):=by intro args; unfold yoRy; split; exact .inr fun R k=>(by kernel_rfl); exact .inl fun R k=>rfl
theorem yCly [Fuel]:Ok 112 (yoRy (@z13z _)):=yaay std (.cons ypdy .nil) ⟨rfl,rfl,by kernel_rfl,rfl,rfl,rfl⟩ (yO6y yeqy) (cutsL (fun _=>rfl) (.cons ys0y (.cons yFuy .nil)) (by kernel_rfl)) Tryz.func112 (by kernel_rfl) (by kernel_rfl)
abbrev yxAy:Type 1:=List G_Spot→Int→{R:Type}→(List G_Spot→Option R)→Option R
structure C_z11z where
 N:Nat
 z13z:yzMy
def z11z_L2 (g:C_z11z):Nat→Int→Int→Int→Int→List G_Spot→{R:Type}→(Int→Int→Int→List G_Spot→Option R)→Option R
 | 0,_,_,_,_,_,_,_=>none
 | n + 1,v3,v4,v5,v6,v7,_,e0=>(bif (decide (v6≤v3)) then (g.z13z v7 v5 v6 (fun r9=>z11z_L2 g n v3 v4 v6 (w64 (v6 + v4)) r9 e0)) else e0 v3 v4 v5 v7)
def z11z_L9 (g:C_z11z):Nat→Int→Int→Int→Int→List G_Spot→{R:Type}→(Int→Int→Int→List G_Spot→Option R)→Option R
 | 0,_,_,_,_,_,_,_=>none
 | n + 1,v27,v28,v29,v30,v31,_,e0=>(bif (decide (v30≤v27)) then none else e0 v27 v28 v29 v31)
def z11z_L7 (g:C_z11z):Nat→Int→Int→List G_Spot→{R:Type}→(List G_Spot→Option R)→Option R
 | 0,_,_,_,_,_=>none
 | n + 1,v15,v16,v17,_,e0=>(bif (decide (v16 < v15)) then (z11z_L9 g g.N v15 v16 0 (w64 (2 * v16)) v17 (fun e32 e33 e34 e35=>(bif (decide ((w64 (e34 + e33)) < e32)) then none else z11z_L7 g n e32 (w64 (e33 * 2)) e35 e0))) else e0 v17)
def z11z_ (g:C_z11z) (a1:List G_Spot) (a2:Int) {R:Type} (k0:List G_Spot→Option R):Option R :=
 (z11z_L2 g g.N a2 20 0 20 a1 (fun e10 e11 e12 e13=>(g.z13z e13 e12 e10 (fun r14=>(z11z_L7 g g.N e10 e11 r14 (fun e36=>k0 e36))))))
noncomputable def ycFy [Fuel]:C_z11z:=⟨NN,@z13z _⟩
noncomputable def z11z [Fuel]:yxAy:=@z11z_ ycFy
def ypQy (g:yxAy):Spec A:=fun args=>match args with | [.arr 45 a1,.d (.int .i64 a2),.fn 56 []]=>fun k=>g a1 a2 (fun z0=>k (.tup []) [.arr 45 z0,.undef,.fn 56 []]) | _=>fun _=>none
def ylAy:SSt:=mkSh 63 1 [(0,.own 45 0),(1,.int .i64),(2,.fn 56 []),(6,.int .i64),(7,.int .i64),(8,.int .i64)] [(0,.row 45)]
def ygny (g:C_z11z) (n:Nat):LPT A:=fun ps=>match ps with | [.d (.int .i64 p1),.d (.int .i64 p2),.d (.int .i64 p3),.d (.int .i64 p4),.d (.sl 45 p5)]=>fun K=>z11z_L2 g n p1 p2 p3 p4 p5 (fun z0 z1 z2 z3=>K (.exit 0) (mkSt 63 1 [(0,.own 45 0),(1,.d (.int .i64 z0)),(2,.fn 56 []),(6,.d (.int .i64 z1)),(7,.d (.int .i64 z2))] [(0,some (.row 45 z3))])) | _=>fun _=>none
def ylFy:SSt:=mkSh 63 1 [(0,.own 45 0),(1,.int .i64),(2,.fn 56 []),(6,.int .i64),(7,.int .i64),(8,.int .i64)] [(0,.row 45)]
def yfvy (g:C_z11z) (n:Nat):LPT A:=fun ps=>match ps with | [.d (.int .i64 p1),.d (.int .i64 p2),.d (.int .i64 p3),.d (.int .i64 p4),.d (.sl 45 p5)]=>fun K=>z11z_L9 g n p1 p2 p3 p4 p5 (fun z0 z1 z2 z3=>K (.exit 4) (mkSt 63 1 [(0,.own 45 0),(1,.d (.int .i64 z0)),(2,.fn 56 []),(6,.d (.int .i64 z1)),(7,.d (.int .i64 z2))] [(0,some (.row 45 z3))])) | _=>fun _=>none
def ymPy:SSt:=mkSh 63 1 [(0,.own 45 0),(1,.int .i64),(2,.fn 56 []),(6,.int .i64)] [(0,.row 45)]
def yfRy (g:C_z11z) (n:Nat):LPT A:=fun ps=>match ps with | [.d (.int .i64 p1),.d (.int .i64 p2),.d (.sl 45 p3)]=>fun K=>z11z_L7 g n p1 p2 p3 (fun z0=>K (.exit 2) (mkSt 63 1 [(0,.own 45 0),(2,.fn 56 [])] [(0,some (.row 45 z0))])) | _=>fun _=>none
noncomputable def ycdy:Code:=(Tryz.f99.body).getD .skip
noncomputable def yhwy (g:C_z11z):Env A:=mkE [(112,yoRy g.z13z)] [] [(2,⟨[0,1,2,6,7,8],[],[0],[],[],[],[]⟩),(9,⟨[0,1,2,6,7,8],[],[0],[],[],[],[]⟩),(7,⟨[0,1,2,6],[],[0],[],[],[],[]⟩)] [(2,⟨[0,1,2,6,7],[],[0],[],[],[],[]⟩),(9,⟨[0,1,2,6,7],[],[0],[],[],[],[]⟩),(7,⟨[0,2],[],[0],[],[],[],[]⟩)] [(2,yady ylAy (ygny g g.N)),(9,yady ylFy (yfvy g g.N)),(7,yady ymPy (yfRy g g.N))] [] [] [] [(112,0)] [0,2]
theorem yt8y [Fuel]:yahy (yhwy ycFy).C:=ct_of (P:=Tryz.prog) (T:=T) (.cons yCly .nil) (by kernel_rfl)
noncomputable def ytEy:Code:=sub [1,1,0,0,0] ycdy
theorem yHIy (g:C_z11z) (n:Nat):yaiy (yhwy g) g.N ytEy ylAy (ygny g) n:=by intro ps; unfold ygny; split; exact .inr fun R K=>(by kernel_rfl); exact .inl fun R K=>rfl
theorem yFyy [Fuel]:yaby (yhwy ycFy) NN ytEy:=yacy ylAy (ygny ycFy) (by kernel_rfl) yt8y (cuts0 (fun _=>rfl) (by kernel_rfl)) (fun ps R K=>by unfold ygny; split <;> (try unfold z11z_L2) <;> rfl) (yHIy ycFy)
noncomputable def ytLy:Code:=sub [1,1,1,1,0,0,1,0,1,0,0,0] ycdy
theorem yGOy (g:C_z11z) (n:Nat):yaiy (yhwy g) g.N ytLy ylFy (yfvy g) n:=by intro ps; unfold yfvy; split; exact .inr fun R K=>(by kernel_rfl); exact .inl fun R K=>rfl
theorem ysZy [Fuel]:yaby (yhwy ycFy) NN ytLy:=yacy ylFy (yfvy ycFy) (by kernel_rfl) yt8y (cuts0 (fun _=>rfl) (by kernel_rfl)) (fun ps R K=>by unfold yfvy; split <;> (try unfold z11z_L9) <;> rfl) (yGOy ycFy)
noncomputable def ytGy:Code:=sub [1,1,1,1,0,0] ycdy
theorem yIKy (g:C_z11z) (n:Nat):yaiy (yhwy g) g.N ytGy ymPy (yfRy g) n:=by intro ps; unfold yfRy; split; exact .inr fun R K=>(by kernel_rfl); exact .inl fun R K=>rfl
theorem yE6y [Fuel]:yaby (yhwy ycFy) NN ytGy:=yacy ymPy (yfRy ycFy) (by kernel_rfl) yt8y (cutsL (fun _=>rfl) (.cons ysZy .nil) (by kernel_rfl)) (fun ps R K=>by unfold yfRy; split <;> (try unfold z11z_L7) <;> rfl) (yIKy ycFy)
theorem yOey (g:C_z11z):Same (ypQy (@z11z_ g)) (abody (yhwy g) Tryz.f99 ycdy 1 [0] [] g.N):=by intro args; unfold ypQy; split; exact .inr fun R k=>(by kernel_rfl); exact .inl fun R k=>rfl
theorem yLGy [Fuel]:Ok 99 (ypQy (@z11z _)):=yaay std (.cons yCly .nil) ⟨rfl,rfl,by kernel_rfl,rfl,rfl,rfl⟩ (yOey ycFy) (cutsL (fun _=>rfl) (.cons yFyy (.cons ysZy (.cons yE6y .nil))) (by kernel_rfl)) Tryz.func99 (by kernel_rfl) (by kernel_rfl)
abbrev yzSy:Type 1:=List G_Spot→{R:Type}→(List G_Spot→Option R)→Option R
structure C_z44z where
 N:Nat
 z11z:yxAy
def z44z_ (g:C_z44z) (a1:List G_Spot) {R:Type} (k0:List G_Spot→Option R):Option R :=
 (g.z11z a1 (a1.length:Int) (fun r2=>k0 r2))
noncomputable def yx4y [Fuel]:C_z44z:=⟨NN,@z11z _⟩
noncomputable def z44z [Fuel]:yzSy:=@z44z_ yx4y
def yoMy (g:yzSy):Spec A:=fun args=>match args with | [.arr 45 a1,.fn 56 []]=>fun k=>g a1 (fun z0=>k (.tup []) [.arr 45 z0,.fn 56 []]) | _=>fun _=>none
noncomputable def yuay:Code:=(Tryz.f55.body).getD .skip
noncomputable def yQ9y (g:C_z44z):Env A:=mkE [(99,ypQy g.z11z)] [] [] [] [] [] [] [] [(99,0)] [0,1]
theorem yOOy (g:C_z44z):Same (yoMy (@z44z_ g)) (abody (yQ9y g) Tryz.f55 yuay 1 [0] [] g.N):=by intro args; unfold yoMy; split; exact .inr fun R k=>(by kernel_rfl); exact .inl fun R k=>rfl
theorem yCny [Fuel]:Ok 55 (yoMy (@z44z _)):=yaay std (.cons yLGy .nil) ⟨rfl,rfl,by kernel_rfl,rfl,rfl,rfl⟩ (yOOy yx4y) (cuts0 (fun _=>rfl) (by kernel_rfl)) Tryz.func55 (by kernel_rfl) (by kernel_rfl)
end Go.Am
