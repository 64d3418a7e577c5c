/- The functions of the program as Lean functions, each shown to be what the code computes, part 4. No condition: lemmas for the claim. -/
import Derived.Test.YtfngnnmdgfkenaaGreatDoorF0
import Derived.Test.YtfngnnmdgfkenaaGreatDoorFSh
import Derived.Test.YtfngnnmdgfkenaaGreatDoorF1
import Derived.Test.YtfngnnmdgfkenaaGreatDoorF3
set_option linter.unusedVariables false
set_option maxRecDepth 100000
namespace Go.Am
open Go Go.Proofs
abbrev ysby:Type 1:=List G_Spot→{R:Type}→(List G_Spot→Option R)→Option R
def z26z_L9 (g:Nat):Nat→Int→Int→Int→Int→List G_Spot→{R:Type}→(Int→List G_Spot→Option R)→Option R
 | 0,_,_,_,_,_,_,_=>none
 | n + 1,v23,v24,v25,v26,v27,_,e0=>(bif (decide (v26 < ((v25 - v24).toNat:Int))) then (bif (decide (0≤v26) && (decide (v26 < v25 - v24) && decide (v24 + v26 < (v27.length:Int)))) then (at_ v27 (v24 + v26) fun x32=>(bif (decide (0≤(w64 (v26 - 1))) && (decide ((w64 (v26 - 1)) < v25 - v24) && decide (v24 + (w64 (v26 - 1)) < (v27.length:Int)))) then (at_ v27 (v24 + (w64 (v26 - 1))) fun x33=>(bif (!(ybdy x32 x33)) then (bif (decide (0≤v26) && (decide (v26 < v25 - v24) && decide (v24 + v26 < (v27.length:Int)))) then (at_ v27 (v24 + v26) fun x34=>(inr v27 v23 (at_ v27 v23 fun x35=>z26z_L9 g n (w64 (v23 + 1)) v24 v25 (w64 (v26 + 1)) (set_ v27 v23 x34) e0))) else none) else z26z_L9 g n v23 v24 v25 (w64 (v26 + 1)) v27 e0)) else none)) else none) else e0 v23 v27)
def z26z_L4 (g:Nat):Nat→Int→List G_Spot→{R:Type}→(List G_Spot→Option R)→(List G_Spot→Option R)→Option R
 | 0,_,_,_,_,_=>none
 | n + 1,v2,v3,_,e0,e1=>(bif (decide (v2 < (v3.length:Int))) then (inr v3 v2 (at_ v3 v2 fun x21=>(inr v3 (w64 (v2 - 1)) (at_ v3 (w64 (v2 - 1)) fun x22=>(bif (ybdy x21 x22) then (bif (decide (0 < v3.length) && (decide (0≤v2) && decide (v2≤(v3.length:Int)))) then (z26z_L9 g g v2 v2 (v3.length:Int) 1 v3 (fun e36 e37=>(bif (decide (0 < e37.length) && (decide (0≤e36) && decide (e36≤(e37.length:Int)))) then (bif (decide (0≤e36) && (decide (e36≤(e37.length:Int)) && decide (((e37.length:Int)).toNat≤e37.length))) then (bif (decide (0≤e36) && decide (e36≤((e37.take (e36).toNat ++ (List.replicate ((e37.length:Int) - e36).toNat (⟨0,0,[],[]⟩:G_Spot) ++ e37.drop ((e37.length:Int)).toNat)).length:Int))) then e0 ((e37.take (e36).toNat ++ (List.replicate ((e37.length:Int) - e36).toNat (⟨0,0,[],[]⟩:G_Spot) ++ e37.drop ((e37.length:Int)).toNat)).take (e36:Int).toNat) else none) else none) else none))) else none) else z26z_L4 g n (w64 (v2 + 1)) v3 e0 e1))))) else e1 v3)
def z26z_ (g:Nat) (a1:List G_Spot) {R:Type} (k0:List G_Spot→Option R):Option R :=
 (bif (decide ((a1.length:Int) < 2)) then k0 a1 else (z26z_L4 g g 1 a1 (fun e38=>k0 e38) (fun e39=>k0 e39)))
noncomputable def z26z [Fuel]:ysby:=@z26z_ NN
def ykby (g:ysby):Spec A:=fun args=>match args with | [.arr 45 a1]=>fun k=>g a1 (fun z0=>k (.arr 45 z0) [.undef]) | _=>fun _=>none
def ylby:SSt:=mkSh 61 6 [(0,.own 45 0),(3,.int .i64),(4,.vw 45 0),(5,.int .i64)] [(0,.row 45)]
def yfry (g:Nat) (n:Nat):LPT A:=fun ps=>match ps with | [.d (.int .i64 p1),.z p2,.z p3,.d (.int .i64 p4),.d (.sl 45 p5)]=>fun K=>z26z_L9 g n p1 p2 p3 p4 p5 (fun z0 z1=>K (.exit 2) (mkSt 61 6 [(0,.own 45 0),(3,.d (.int .i64 z0))] [(0,some (.row 45 z1))])) | _=>fun _=>none
def ymGy:SSt:=mkSh 61 6 [(0,.own 45 0),(3,.int .i64)] [(0,.row 45)]
def yfMy (g:Nat) (n:Nat):LPT A:=fun ps=>match ps with | [.d (.int .i64 p1),.d (.sl 45 p2)]=>fun K=>z26z_L4 g n p1 p2 (fun z0=>K .ret (mkSt 61 6 [(0,.own 45 0),(2,.own 45 5)] [(5,some (.row 45 z0))])) (fun z0=>K (.exit 0) (mkSt 61 6 [(0,.own 45 0)] [(0,some (.row 45 z0))])) | _=>fun _=>none
noncomputable def yu6y:Code:=(Tryz.f40.body).getD .skip
noncomputable def ykpy (g:Nat):Env A:=mkE [] [(28,[1,2]),(56,[3,4]),(59,[5])] [(9,⟨[0,3,4,5],[],[0],[],[],[],[]⟩),(4,⟨[0,3],[],[0],[],[],[],[]⟩)] [(9,⟨[0,3],[],[0],[],[],[],[]⟩),(4,⟨[0,2],[],[0,5],[],[],[],[]⟩)] [(9,yady ylby (yfry g g)),(4,yady ymGy (yfMy g g))] [] [] [] [] []
theorem yDqy [Fuel]:yahy (ykpy NN).C:=ct_of (P:=Tryz.prog) (T:=T) .nil (by kernel_rfl)
noncomputable def yr9y:Code:=sub [1,1,0,1,0,0,1,0,0,1,0,1,0,1,0,0] yu6y
theorem yGCy (g:Nat) (n:Nat):yaiy (ykpy g) g yr9y ylby (yfry g) n:=by intro ps; unfold yfry; split; exact .inr fun R K=>(by kernel_rfl); exact .inl fun R K=>rfl
theorem ytvy [Fuel]:yaby (ykpy NN) NN yr9y:=yacy ylby (yfry NN) (by kernel_rfl) yDqy (cuts0 (fun _=>rfl) (by kernel_rfl)) (fun ps R K=>by unfold yfry; split <;> (try unfold z26z_L9) <;> rfl) (yGCy NN)
noncomputable def ythy:Code:=sub [1,1,0,1,0,0] yu6y
theorem yHay (g:Nat) (n:Nat):yaiy (ykpy g) g ythy ymGy (yfMy g) n:=by intro ps; unfold yfMy; split; exact .inr fun R K=>(by kernel_rfl); exact .inl fun R K=>rfl
theorem yGby [Fuel]:yaby (ykpy NN) NN ythy:=yacy ymGy (yfMy NN) (by kernel_rfl) yDqy (cutsL (fun _=>rfl) (.cons ytvy .nil) (by kernel_rfl)) (fun ps R K=>by unfold yfMy; split <;> (try unfold z26z_L4) <;> rfl) (yHay NN)
theorem yOcy (g:Nat):Same (ykby (@z26z_ g)) (abody (ykpy g) Tryz.f40 yu6y 6 [0] [.arr 45] g):=by intro args; unfold ykby; split; exact .inr fun R k=>(by kernel_rfl); exact .inl fun R k=>rfl
theorem yoIy [Fuel]:Ok 40 (ykby (@z26z _)):=yaay std .nil ⟨rfl,rfl,by kernel_rfl,rfl,rfl,rfl⟩ (yOcy NN) (cutsL (fun _=>rfl) (.cons ytvy (.cons yGby .nil)) (by kernel_rfl)) Tryz.func40 (by kernel_rfl) (by kernel_rfl)
abbrev yz2y:Type 1:=G_Stream→Int→{R:Type}→(List G_Spot→G_Stream→Option R)→Option R
structure C_z63z where
 N:Nat
 z74z:yhLy
 z79z:ykty
 z83z:ykRy
 Stream_Odd:ydvy
 z26z:ysby
 z105z:yuMy
 z44z:yzSy
def z63z_L4 (g:C_z63z):Nat→Int→Int→Int→G_Stream→List G_Spot→{R:Type}→(G_Stream→List G_Spot→Option R)→Option R
 | 0,_,_,_,_,_,_,_=>none
 | n + 1,v3,v4,v5,v6,v7,_,e0=>(bif (decide (v5 < v4)) then (g.z79z v6 [0,1,5,20] (fun r24 r25=>(g.z79z r25 [7000000,7100000,7299999,7300000,14000000,14010000,14020000,14020000,1800000,5000000] (fun r26 r27=>(g.z105z r27 (fun r28 r29=>(g.z83z r29 [[119,49,97,119],[110,49,109,109]] (fun r30 r31=>(g.z74z r31 80 (fun r32 r33=>(bif r32 then (g.Stream_Odd r33 0 100 (fun r34 r35=>(g.Stream_Odd r35 0 30000000000 (fun r36 r37=>(g.z83z r37 [[],[119,49,97,119]] (fun r38 r39=>(bif (decide ((v7.length + [(⟨r34,r36,r28,r38⟩:G_Spot)].length) * 48≤yagy)) then z63z_L4 g n (w64 (v3 + r24)) v4 (w64 (v5 + 1)) r39 (v7 ++ [(⟨r34,r36,r28,r38⟩:G_Spot)]) e0 else none))))))) else (bif (decide ((v7.length + [(⟨(w64 (v3 + r24)),r26,r28,r30⟩:G_Spot)].length) * 48≤yagy)) then z63z_L4 g n (w64 (v3 + r24)) v4 (w64 (v5 + 1)) r33 (v7 ++ [(⟨(w64 (v3 + r24)),r26,r28,r30⟩:G_Spot)]) e0 else none)))))))))))) else e0 v6 v7)
def z63z_ (g:C_z63z) (a1:G_Stream) (a2:Int) {R:Type} (k0:List G_Spot→G_Stream→Option R):Option R :=
 (z63z_L4 g g.N 0 a2 0 a1 [] (fun e40 e41=>(g.z44z e41 (fun r42=>(g.z26z r42 (fun r43=>k0 r43 e40))))))
noncomputable def yciy [Fuel]:C_z63z:=⟨NN,@z74z _,@z79z _,@z83z _,@Stream_Odd _,@z26z _,@z105z _,@z44z _⟩
noncomputable def z63z [Fuel]:yz2y:=@z63z_ yciy
def yoYy (g:yz2y):Spec A:=fun args=>match args with | [.box [.d (.sl 3 a1),.d (.int .i64 a2)],.d (.int .i64 a3)]=>fun k=>g ⟨a1,a2⟩ a3 (fun z0 z1=>k (.arr 45 z0) [.box [.d (.sl 3 z1.f_L),.d (.int .i64 z1.f_at)],.undef]) | _=>fun _=>none
def yl5y:SSt:=mkSh 47 10 [(0,.ptr 0 0),(5,.own 45 1),(6,.int .i64),(8,.int .i64),(9,.int .i64)] [(0,.box [.sl 3,.int .i64]),(1,.row 45)]
def yfky (g:C_z63z) (n:Nat):LPT A:=fun ps=>match ps with | [.d (.int .i64 p1),.d (.int .i64 p2),.d (.int .i64 p3),.d (.sl 3 p4),.d (.int .i64 p5),.d (.sl 45 p6)]=>fun K=>z63z_L4 g n p1 p2 p3 ⟨p4,p5⟩ p6 (fun z0 z1=>K (.exit 0) (mkSt 47 10 [(0,.ptr 0 0),(5,.own 45 1)] [(0,some (.box [.d (.sl 3 z0.f_L),.d (.int .i64 z0.f_at)])),(1,some (.row 45 z1))])) | _=>fun _=>none
noncomputable def yCDy:Code:=(Tryz.f32.body).getD .skip
noncomputable def yrAy (g:C_z63z):Env A:=mkE [(21,yd3y g.z74z),(22,ygYy g.z79z),(24,ygEy g.z83z),(25,ycfy g.Stream_Odd),(40,ykby g.z26z),(54,ymny g.z105z),(55,yoMy g.z44z)] [(7,[5]),(13,[2]),(18,[3]),(23,[4]),(33,[6]),(40,[7]),(41,[8]),(46,[9])] [(4,⟨[0,5,6,8,9],[(5,45,1)],[0],[],[],[],[]⟩)] [(4,⟨[0,5],[],[0,1],[],[],[],[]⟩)] [(4,yady yl5y (yfky g g.N))] [] [] [] [(40,0),(55,0)] [0]
theorem yOwy [Fuel]:yahy (yrAy yciy).C:=ct_of (P:=Tryz.prog) (T:=T) (.cons ydky (.cons ygRy (.cons ygGy (.cons ycby (.cons yoIy (.cons yxqy (.cons yCny .nil))))))) (by kernel_rfl)
noncomputable def ytAy:Code:=sub [1,1,1,0,1,0,0] yCDy
theorem yHcy (g:C_z63z) (n:Nat):yaiy (yrAy g) g.N ytAy yl5y (yfky g) n:=by intro ps; unfold yfky; split; exact .inr fun R K=>(by kernel_rfl); exact .inl fun R K=>rfl
theorem yFly [Fuel]:yaby (yrAy yciy) NN ytAy:=yacy yl5y (yfky yciy) (by kernel_rfl) yOwy (cuts0 (fun _=>rfl) (by kernel_rfl)) (fun ps R K=>by unfold yfky; split <;> (try unfold z63z_L4) <;> rfl) (yHcy yciy)
theorem yLSy (g:C_z63z):Same (yoYy (@z63z_ g)) (abody (yrAy g) Tryz.f32 yCDy 10 [0] [.arr 45] g.N):=by intro args; unfold yoYy; split; exact .inr fun R k=>(by kernel_rfl); exact .inl fun R k=>rfl
theorem yCOy [Fuel]:Ok 32 (yoYy (@z63z _)):=yaay std (.cons ydky (.cons ygRy (.cons ygGy (.cons ycby (.cons yoIy (.cons yxqy (.cons yCny .nil))))))) ⟨rfl,rfl,by kernel_rfl,rfl,rfl,rfl⟩ (yLSy yciy) (cutsL (fun _=>rfl) (.cons yFly .nil) (by kernel_rfl)) Tryz.func32 (by kernel_rfl) (by kernel_rfl)
abbrev ysxy:Type 1:=Int→Int→Int→{R:Type}→(Bool→Option R)→Option R
def Q_in_ (g:Nat) (a1 a2 a3:Int) {R:Type} (k0:Bool→Option R):Option R :=
 (bif (decide (a2≤a1)) then k0 (decide (a1≤a3)) else k0 false)
noncomputable def Q_in [Fuel]:ysxy:=@Q_in_ NN
def ykWy (g:ysxy):Spec A:=fun args=>match args with | [.d (.int .i64 a1),.d (.int .i64 a2),.d (.int .i64 a3)]=>fun k=>g a1 a2 a3 (fun z0=>k (.d (.bool z0)) [.undef,.undef,.undef]) | _=>fun _=>none
noncomputable def yLvy:Code:=(Tryz.f58.body).getD .skip
noncomputable def yQVy (g:Nat):Env A:=mkE [] [] [] [] [] [] [] [] [] []
theorem yO5y (g:Nat):Same (ykWy (@Q_in_ g)) (abody (yQVy g) Tryz.f58 yLvy 0 [] [.asis] g):=by intro args; unfold ykWy; split; exact .inr fun R k=>(by kernel_rfl); exact .inl fun R k=>rfl
theorem yvgy [Fuel]:Ok 58 (ykWy (@Q_in _)):=yaay std .nil ⟨rfl,rfl,by kernel_rfl,rfl,rfl,rfl⟩ (yO5y NN) (cuts0 (fun _=>rfl) (by kernel_rfl)) Tryz.func58 (by kernel_rfl) (by kernel_rfl)
abbrev ylky:Type 1:=Int→{R:Type}→(Bool→Option R)→Option R
structure C_Q_Moment where
 N:Nat
 Q_in:ysxy
def yn2y (g:C_Q_Moment) (a1:Int) {R:Type} (k0:Bool→Option R):Option R :=
 (g.Q_in a1 0 345686399999 (fun r2=>k0 r2))
noncomputable def ylxy [Fuel]:C_Q_Moment:=⟨NN,@Q_in _⟩
noncomputable def Q_Moment [Fuel]:ylky:=@yn2y ylxy
def yhjy (g:ylky):Spec A:=fun args=>match args with | [.d (.int .i64 a1)]=>fun k=>g a1 (fun z0=>k (.d (.bool z0)) [.undef]) | _=>fun _=>none
noncomputable def yM7y:Code:=(Tryz.f57.body).getD .skip
noncomputable def yEXy (g:C_Q_Moment):Env A:=mkE [(58,ykWy g.Q_in)] [] [] [] [] [] [] [] [] []
theorem yBFy (g:C_Q_Moment):Same (yhjy (@yn2y g)) (abody (yEXy g) Tryz.f57 yM7y 0 [] [.asis] g.N):=by intro args; unfold yhjy; split; exact .inr fun R k=>(by kernel_rfl); exact .inl fun R k=>rfl
theorem yqwy [Fuel]:Ok 57 (yhjy (@Q_Moment _)):=yaay std (.cons yvgy .nil) ⟨rfl,rfl,by kernel_rfl,rfl,rfl,rfl⟩ (yBFy ylxy) (cuts0 (fun _=>rfl) (by kernel_rfl)) Tryz.func57 (by kernel_rfl) (by kernel_rfl)
abbrev yb8y:Type 1:=List UInt8→List UInt8→{R:Type}→(Int→Option R)→Option R
def stringslite_Index [Fuel]:yb8y:=@X_ix1
def ycQy (g:yb8y):Spec A:=ykfy g
theorem yfey [Fuel]:Ok 214 (ycQy (@stringslite_Index _)):=⟨ywFy (yG6y (Any.stringslite_Index_one Tryz.lays219)),yBdy,yaOy (fn:=Tryz.f214) Tryz.func214 (by kernel_rfl) (by kernel_rfl)⟩
abbrev yuxy:Type 1:=List UInt8→List UInt8→{R:Type}→(List UInt8→List UInt8→Bool→Option R)→Option R
structure C_z109z where
 N:Nat
 stringslite_Index:yb8y
def z109z_ (g:C_z109z) (a1 a2:List UInt8) {R:Type} (k0:List UInt8→List UInt8→Bool→Option R):Option R :=
 (g.stringslite_Index a1 a2 (fun r3=>(bif (decide (r3 ≥ 0)) then (bif (decide (0≤r3) && decide (r3≤(a1.length:Int))) then (bif (decide (0≤(w64 (r3 + (a2.length:Int)))) && decide ((w64 (r3 + (a2.length:Int)))≤(a1.length:Int))) then k0 (a1.take (r3:Int).toNat) (a1.drop ((w64 (r3 + (a2.length:Int))):Int).toNat) true else none) else none) else k0 a1 [] false)))
noncomputable def yCry [Fuel]:C_z109z:=⟨NN,@stringslite_Index _⟩
noncomputable def z109z [Fuel]:yuxy:=@z109z_ yCry
def ymNy (g:yuxy):Spec A:=fun args=>match args with | [.d (.str a1),.d (.str a2)]=>fun k=>g a1 a2 (fun z0 z1 z2=>k (.tup [.d (.str z0),.d (.str z1),.d (.bool z2)]) [.undef,.undef]) | _=>fun _=>none
noncomputable def yJ3y:Code:=(Tryz.f178.body).getD .skip
noncomputable def yLLy (g:C_z109z):Env A:=mkE [(214,ycQy g.stringslite_Index)] [] [] [] [] [] [] [] [] []
theorem yK9y (g:C_z109z):Same (ymNy (@z109z_ g)) (abody (yLLy g) Tryz.f178 yJ3y 0 [] [.asis,.asis,.asis] g.N):=by intro args; unfold ymNy; split; exact .inr fun R k=>(by kernel_rfl); exact .inl fun R k=>rfl
theorem yKDy [Fuel]:Ok 178 (ymNy (@z109z _)):=yaay std (.cons yfey .nil) ⟨rfl,rfl,by kernel_rfl,rfl,rfl,rfl⟩ (yK9y yCry) (cuts0 (fun _=>rfl) (by kernel_rfl)) Tryz.func178 (by kernel_rfl) (by kernel_rfl)
abbrev ypsy:Type 1:=List UInt8→List UInt8→{R:Type}→(List UInt8→List UInt8→Bool→Option R)→Option R
structure C_z115z where
 N:Nat
 z109z:yuxy
def z115z_ (g:C_z115z) (a1 a2:List UInt8) {R:Type} (k0:List UInt8→List UInt8→Bool→Option R):Option R :=
 (g.z109z a1 a2 (fun r3 r4 r5=>k0 r3 r4 r5))
noncomputable def yCiy [Fuel]:C_z115z:=⟨NN,@z109z _⟩
noncomputable def z115z [Fuel]:ypsy:=@z115z_ yCiy
def yiTy (g:ypsy):Spec A:=fun args=>match args with | [.d (.str a1),.d (.str a2)]=>fun k=>g a1 a2 (fun z0 z1 z2=>k (.tup [.d (.str z0),.d (.str z1),.d (.bool z2)]) [.undef,.undef]) | _=>fun _=>none
noncomputable def yKly:Code:=(Tryz.f143.body).getD .skip
noncomputable def yLUy (g:C_z115z):Env A:=mkE [(178,ymNy g.z109z)] [] [] [] [] [] [] [] [] []
theorem yKCy (g:C_z115z):Same (yiTy (@z115z_ g)) (abody (yLUy g) Tryz.f143 yKly 0 [] [.asis,.asis,.asis] g.N):=by intro args; unfold yiTy; split; exact .inr fun R k=>(by kernel_rfl); exact .inl fun R k=>rfl
theorem yyYy [Fuel]:Ok 143 (yiTy (@z115z _)):=yaay std (.cons yKDy .nil) ⟨rfl,rfl,by kernel_rfl,rfl,rfl,rfl⟩ (yKCy yCiy) (cuts0 (fun _=>rfl) (by kernel_rfl)) Tryz.func143 (by kernel_rfl) (by kernel_rfl)
abbrev ydsy:Type 1:=List UInt8→Int→{R:Type}→(Int→Option R)→Option R
def strings_IndexRune [Fuel]:ydsy:=@X_ixr
def yf4y (g:ydsy):Spec A:=ykuy g
theorem yfty [Fuel]:Ok 215 (yf4y (@strings_IndexRune _)):=⟨ywVy (yIyy (fun s r w h0 h1=>Any.strings_IndexRune_ascii Tryz.lays152 s r w h0 h1)),yCby,yaOy (fn:=Tryz.f215) Tryz.func215 (by kernel_rfl) (by kernel_rfl)⟩
abbrev yzjy:Type 1:=Int→{R:Type}→(Bool→Option R)→Option R
def z95z_ (g:Nat) (a1:Int) {R:Type} (k0:Bool→Option R):Option R :=
 k0 (decide (a1 > 8))
noncomputable def z95z [Fuel]:yzjy:=@z95z_ NN
def ypFy (g:yzjy):Spec A:=fun args=>match args with | [.d (.int .i64 a1)]=>fun k=>g a1 (fun z0=>k (.d (.bool z0)) [.undef]) | _=>fun _=>none
noncomputable def yKfy:Code:=(Tryz.f216.body).getD .skip
noncomputable def yQEy (g:Nat):Env A:=mkE [] [] [] [] [] [] [] [] [] []
theorem yLFy (g:Nat):Same (ypFy (@z95z_ g)) (abody (yQEy g) Tryz.f216 yKfy 0 [] [.asis] g):=by intro args; unfold ypFy; split; exact .inr fun R k=>(by kernel_rfl); exact .inl fun R k=>rfl
theorem yCCy [Fuel]:Ok 216 (ypFy (@z95z _)):=yaay std .nil ⟨rfl,rfl,by kernel_rfl,rfl,rfl,rfl⟩ (yLFy NN) (cuts0 (fun _=>rfl) (by kernel_rfl)) Tryz.func216 (by kernel_rfl) (by kernel_rfl)
abbrev yyky:Type 1:=List UInt8→{R:Type}→Option R
def z98z_ (g:Nat) (a1:List UInt8) {R:Type}  : Option R :=
 none
noncomputable def z98z [Fuel]:yyky:=@z98z_ NN
def yoPy (g:yyky):Spec A:=fun args=>match args with | [.d (.str a1)]=>fun k=>g a1 | _=>fun _=>none
noncomputable def yzky:Code:=(Tryz.f151.body).getD .skip
noncomputable def yGQy (g:Nat):Env A:=mkE [] [] [] [] [] [] [] [] [] []
noncomputable def yE5y:Code:=sub [1,0,1,0,0] yzky
theorem yEuy [Fuel]:yaby (yGQy NN) NN yE5y:=ypry (by kernel_rfl)
theorem yP0y (g:Nat):Same (yoPy (@z98z_ g)) (abody (yGQy g) Tryz.f151 yzky 0 [] [.asis,.asis] g):=by intro args; unfold yoPy; split; exact .inr fun R k=>(by kernel_rfl); exact .inl fun R k=>rfl
theorem yCNy [Fuel]:Ok 151 (yoPy (@z98z _)):=yaay std .nil ⟨rfl,rfl,by kernel_rfl,rfl,rfl,rfl⟩ (yP0y NN) (cutsL (fun _=>rfl) (.cons yEuy .nil) (by kernel_rfl)) Tryz.func151 (by kernel_rfl) (by kernel_rfl)
abbrev yuNy:Type 1:=Int→{R:Type}→Option R
def z122z_ (g:Nat) (a1:Int) {R:Type}  : Option R :=
 none
noncomputable def z122z [Fuel]:yuNy:=@z122z_ NN
def yljy (g:yuNy):Spec A:=fun args=>match args with | [.d (.int .u8 a1)]=>fun k=>g a1 | _=>fun _=>none
noncomputable def yLny:Code:=(Tryz.f219.body).getD .skip
noncomputable def yMUy (g:Nat):Env A:=mkE [] [] [] [] [] [] [] [] [] []
theorem yKNy (g:Nat):Same (yljy (@z122z_ g)) (abody (yMUy g) Tryz.f219 yLny 0 [] [.asis] g):=by intro args; unfold yljy; split; exact .inr fun R k=>(by kernel_rfl); exact .inl fun R k=>rfl
theorem yxJy [Fuel]:Ok 219 (yljy (@z122z _)):=yaay std .nil ⟨rfl,rfl,by kernel_rfl,rfl,rfl,rfl⟩ (yKNy NN) (cuts0 (fun _=>rfl) (by kernel_rfl)) Tryz.func219 (by kernel_rfl) (by kernel_rfl)
abbrev yA6y:Type 1:=List UInt8→{R:Type}→(Int→Int→Option R)→Option R
def z92z_ (g:Nat) (a1:List UInt8) {R:Type} (k0:Int→Int→Option R):Option R :=
 (bif (decide ((a1.length:Int) < 1)) then k0 65533 0 else (at_ a1 0 fun x2=>none))
noncomputable def z92z [Fuel]:yA6y:=@z92z_ NN
def ypGy (g:yA6y):Spec A:=fun args=>match args with | [.d (.str a1)]=>fun k=>g a1 (fun z0 z1=>k (.tup [.d (.int .i32 z0),.d (.int .i64 z1)]) [.undef]) | _=>fun _=>none
noncomputable def yI8y:Code:=(Tryz.f218.body).getD .skip
noncomputable def yRBy (g:Nat):Env A:=mkE [] [] [] [] [] [] [] [] [] []
theorem yOqy (g:Nat):Same (ypGy (@z92z_ g)) (abody (yRBy g) Tryz.f218 yI8y 0 [] [.asis,.asis] g):=by intro args; unfold ypGy; split; exact .inr fun R k=>(by kernel_rfl); exact .inl fun R k=>rfl
theorem yNwy [Fuel]:Ok 218 (ypGy (@z92z _)):=yaay std .nil ⟨rfl,rfl,by kernel_rfl,rfl,rfl,rfl⟩ (yOqy NN) (cuts0 (fun _=>rfl) (by kernel_rfl)) Tryz.func218 (by kernel_rfl) (by kernel_rfl)
abbrev yxYy:Type 1:=List UInt8→{R:Type}→(Int→Int→Option R)→Option R
structure C_z84z where
 N:Nat
 z92z:yA6y
def z84z_ (g:C_z84z) (a1:List UInt8) {R:Type} (k0:Int→Int→Option R):Option R :=
 (bif (!(a1 == [])) then (at_ a1 0 fun x2=>(bif (decide ((x2.toNat:Int) < 128)) then (at_ a1 0 fun x3=>k0 (IntKind.i32.wrap (x3.toNat:Int)) 1) else (g.z92z a1 (fun r4 r5=>k0 r4 r5)))) else (g.z92z a1 (fun r6 r7=>k0 r6 r7)))
noncomputable def yIEy [Fuel]:C_z84z:=⟨NN,@z92z _⟩
noncomputable def z84z [Fuel]:yxYy:=@z84z_ yIEy
def yozy (g:yxYy):Spec A:=fun args=>match args with | [.d (.str a1)]=>fun k=>g a1 (fun z0 z1=>k (.tup [.d (.int .i32 z0),.d (.int .i64 z1)]) [.undef]) | _=>fun _=>none
noncomputable def yJuy:Code:=(Tryz.f186.body).getD .skip
noncomputable def yQTy (g:C_z84z):Env A:=mkE [(218,ypGy g.z92z)] [] [] [] [] [] [] [] [] []
theorem yMKy (g:C_z84z):Same (yozy (@z84z_ g)) (abody (yQTy g) Tryz.f186 yJuy 0 [] [.asis,.asis] g.N):=by intro args; unfold yozy; split; exact .inr fun R k=>(by kernel_rfl); exact .inl fun R k=>rfl
theorem yC8y [Fuel]:Ok 186 (yozy (@z84z _)):=yaay std (.cons yNwy .nil) ⟨rfl,rfl,by kernel_rfl,rfl,rfl,rfl⟩ (yMKy yIEy) (cuts0 (fun _=>rfl) (by kernel_rfl)) Tryz.func186 (by kernel_rfl) (by kernel_rfl)
abbrev yy7y:Type 1:=List UInt8→{R:Type}→(Int→Int→Option R)→Option R
structure C_z30z where
 N:Nat
 z84z:yxYy
 z122z:yuNy
def z30z_L10 (g:C_z30z):Nat→List UInt8→Int→Int→Int→{R:Type}→(List UInt8→Int→Int→Option R)→Option R
 | 0,_,_,_,_,_,_=>none
 | n + 1,v3,v4,v5,v6,_,e0=>(bif (decide (v5 ≥ v6)) then (get_ v3 v5 fun x8=>(g.z122z (x8.toNat:Int))) else e0 v3 v4 v5)
def z30z_ (g:C_z30z) (a1:List UInt8) {R:Type} (k0:Int→Int→Option R):Option R :=
 (bif ((a1.length:Int) == 0) then k0 65533 0 else (get_ a1 (w64 ((a1.length:Int) - 1)) fun x2=>(bif (decide ((IntKind.i32.wrap (x2.toNat:Int)) < 128)) then k0 (IntKind.i32.wrap (x2.toNat:Int)) 1 else (z30z_L10 g g.N a1 (a1.length:Int) (w64 ((w64 ((a1.length:Int) - 1)) - 1)) (if 0 > (w64 ((a1.length:Int) - 4)) then 0 else (w64 ((a1.length:Int) - 4))) (fun e9 e10 e11=>(bif (decide (e11 < 0)) then (bif (decide (0≤0) && (decide (0≤e10) && decide (e10≤(e9.length:Int)))) then (g.z84z ((e9.take (e10:Int).toNat).drop (0:Int).toNat) (fun r12 r13=>(bif ((w64 (0 + r13)) != e10) then k0 65533 1 else k0 r12 r13))) else none) else (bif (decide (0≤e11) && (decide (e11≤e10) && decide (e10≤(e9.length:Int)))) then (g.z84z ((e9.take (e10:Int).toNat).drop (e11:Int).toNat) (fun r14 r15=>(bif ((w64 (e11 + r15)) != e10) then k0 65533 1 else k0 r14 r15))) else none)))))))
noncomputable def ykLy [Fuel]:C_z30z:=⟨NN,@z84z _,@z122z _⟩
noncomputable def z30z [Fuel]:yy7y:=@z30z_ ykLy
def yphy (g:yy7y):Spec A:=fun args=>match args with | [.d (.str a1)]=>fun k=>g a1 (fun z0 z1=>k (.tup [.d (.int .i32 z0),.d (.int .i64 z1)]) [.undef]) | _=>fun _=>none
def yjZy:SSt:=mkSh 51 0 [(0,.str),(4,.int .i64),(5,.int .i64),(6,.int .i64)] []
def yeey (g:C_z30z) (n:Nat):LPT A:=fun ps=>match ps with | [.d (.str p1),.d (.int .i64 p2),.d (.int .i64 p3),.d (.int .i64 p4)]=>fun K=>z30z_L10 g n p1 p2 p3 p4 (fun z0 z1 z2=>K (.exit 0) (mkSt 51 0 [(0,.d (.str z0)),(4,.d (.int .i64 z1)),(5,.d (.int .i64 z2))] [])) | _=>fun _=>none
noncomputable def yxyy:Code:=(Tryz.f188.body).getD .skip
noncomputable def ysQy (g:C_z30z):Env A:=mkE [(186,yozy g.z84z),(219,yljy g.z122z)] [] [(10,⟨[0,4,5,6],[],[],[],[],[],[]⟩)] [(10,⟨[0,4,5],[],[],[],[],[],[]⟩)] [(10,yady yjZy (yeey g g.N))] [] [] [] [] []
theorem yNGy [Fuel]:yahy (ysQy ykLy).C:=ct_of (P:=Tryz.prog) (T:=T) (.cons yC8y (.cons yxJy .nil)) (by kernel_rfl)
noncomputable def yqzy:Code:=sub [1,1,1,1,1,1,1,0,1,0,0] yxyy
theorem yFYy (g:C_z30z) (n:Nat):yaiy (ysQy g) g.N yqzy yjZy (yeey g) n:=by intro ps; unfold yeey; split; exact .inr fun R K=>(by kernel_rfl); exact .inl fun R K=>rfl
theorem yB2y [Fuel]:yaby (ysQy ykLy) NN yqzy:=yacy yjZy (yeey ykLy) (by kernel_rfl) yNGy (cuts0 (fun _=>rfl) (by kernel_rfl)) (fun ps R K=>by unfold yeey; split <;> (try unfold z30z_L10) <;> rfl) (yFYy ykLy)
theorem yMMy (g:C_z30z):Same (yphy (@z30z_ g)) (abody (ysQy g) Tryz.f188 yxyy 0 [] [.asis,.asis] g.N):=by intro args; unfold yphy; split; exact .inr fun R k=>(by kernel_rfl); exact .inl fun R k=>rfl
theorem yCVy [Fuel]:Ok 188 (yphy (@z30z _)):=yaay std (.cons yC8y (.cons yxJy .nil)) ⟨rfl,rfl,by kernel_rfl,rfl,rfl,rfl⟩ (yMMy ykLy) (cutsL (fun _=>rfl) (.cons yB2y .nil) (by kernel_rfl)) Tryz.func188 (by kernel_rfl) (by kernel_rfl)
abbrev ytpy:Type 1:=List UInt8→List UInt8→{R:Type}→(Int→Option R)→Option R
structure C_z22z where
 N:Nat
 z98z:yyky
 z30z:yy7y
 strings_IndexRune:ydsy
 z95z:yzjy
def z22z_L24 (g:C_z22z):Nat→List UInt8→Int→Int→{R:Type}→(Int→Option R)→Option R→Option R
 | 0,_,_,_,_,_,_=>none
 | n + 1,v8,v9,v10,_,e0,e1=>(bif (decide (v10 > 0)) then (bif (decide (0≤v10) && decide (v10≤(v8.length:Int))) then (g.z30z (v8.take (v10:Int).toNat) (fun r13 r14=>(bif (v9 == r13) then e0 (w64 (v10 - r14)) else z22z_L24 g n v8 v9 (w64 (v10 - r14)) e0 e1))) else none) else e1)
def z22z_L31 (g:C_z22z):Nat→List UInt8→List UInt8→Int→{R:Type}→(Int→Option R)→Option R→Option R
 | 0,_,_,_,_,_,_=>none
 | n + 1,v17,v18,v19,_,e0,e1=>(bif (decide (v19 > 0)) then (bif (decide (0≤v19) && decide (v19≤(v17.length:Int))) then (g.z30z (v17.take (v19:Int).toNat) (fun r23 r24=>(g.strings_IndexRune v18 r23 (fun r25=>(bif (decide (r25 ≥ 0)) then e0 (w64 (v19 - r24)) else z22z_L31 g n v17 v18 (w64 (v19 - r24)) e0 e1))))) else none) else e1)
def z22z_ (g:C_z22z) (a1 a2:List UInt8) {R:Type} (k0:Int→Option R):Option R :=
 (bif (a2 == []) then k0 (-1) else (bif ((a1.length:Int) == 1) then (at_ a1 0 fun x3=>(bif (decide ((IntKind.i32.wrap (x3.toNat:Int)) ≥ 128)) then (g.strings_IndexRune a2 65533 (fun r4=>(bif (decide (r4 ≥ 0)) then k0 0 else k0 (-1)))) else (g.strings_IndexRune a2 (IntKind.i32.wrap (x3.toNat:Int)) (fun r5=>(bif (decide (r5 ≥ 0)) then k0 0 else k0 (-1)))))) else (g.z95z (a1.length:Int) (fun r6=>(bif r6 then (g.z98z a2) else (bif ((a2.length:Int) == 1) then (at_ a2 0 fun x7=>(bif (decide ((IntKind.i32.wrap (x7.toNat:Int)) ≥ 128)) then (z22z_L24 g g.N a1 65533 (a1.length:Int) (fun e15=>k0 e15) (k0 (-1))) else (z22z_L24 g g.N a1 (IntKind.i32.wrap (x7.toNat:Int)) (a1.length:Int) (fun e16=>k0 e16) (k0 (-1))))) else (z22z_L31 g g.N a1 a2 (a1.length:Int) (fun e26=>k0 e26) (k0 (-1)))))))))
noncomputable def yeby [Fuel]:C_z22z:=⟨NN,@z98z _,@z30z _,@strings_IndexRune _,@z95z _⟩
noncomputable def z22z [Fuel]:ytpy:=@z22z_ yeby
def yksy (g:ytpy):Spec A:=fun args=>match args with | [.d (.str a1),.d (.str a2)]=>fun k=>g a1 a2 (fun z0=>k (.d (.int .i64 z0)) [.undef,.undef]) | _=>fun _=>none
def yjDy:SSt:=mkSh 96 0 [(0,.str),(9,.int .i32),(10,.int .i64)] []
def yd6y (g:C_z22z) (n:Nat):LPT A:=fun ps=>match ps with | [.d (.str p1),.d (.int .i32 p2),.d (.int .i64 p3)]=>fun K=>z22z_L24 g n p1 p2 p3 (fun z0=>K .ret (mkSt 96 0 [(4,.d (.int .i64 z0))] [])) (K (.exit 2) (mkSt 96 0 [] [])) | _=>fun _=>none
def yjHy:SSt:=mkSh 96 0 [(0,.str),(1,.str),(13,.int .i64)] []
def yd7y (g:C_z22z) (n:Nat):LPT A:=fun ps=>match ps with | [.d (.str p1),.d (.str p2),.d (.int .i64 p3)]=>fun K=>z22z_L31 g n p1 p2 p3 (fun z0=>K .ret (mkSt 96 0 [(4,.d (.int .i64 z0))] [])) (K (.exit 4) (mkSt 96 0 [] [])) | _=>fun _=>none
noncomputable def ymIy:Code:=(Tryz.f179.body).getD .skip
noncomputable def yiBy (g:C_z22z):Env A:=mkE [(151,yoPy g.z98z),(188,yphy g.z30z),(215,yf4y g.strings_IndexRune),(216,ypFy g.z95z)] [] [(24,⟨[0,9,10],[],[],[],[],[],[]⟩),(31,⟨[0,1,13],[],[],[],[],[],[]⟩)] [(24,⟨[4],[],[],[],[],[],[]⟩),(31,⟨[4],[],[],[],[],[],[]⟩)] [(24,yady yjDy (yd6y g g.N)),(31,yady yjHy (yd7y g g.N))] [] [] [] [] []
theorem yCRy [Fuel]:yahy (yiBy yeby).C:=ct_of (P:=Tryz.prog) (T:=T) (.cons yCNy (.cons yCVy (.cons yfty (.cons yCCy .nil)))) (by kernel_rfl)
noncomputable def yBJy:Code:=sub [1,1,1,0,1,0,1,1,0,0,1,0,0] ymIy
theorem yB3y [Fuel]:yaby (yiBy yeby) NN yBJy:=ypry (by kernel_rfl)
noncomputable def yqjy:Code:=sub [1,1,1,1,0,1,0,1,1,0,1,0,0] ymIy
theorem yFvy (g:C_z22z) (n:Nat):yaiy (yiBy g) g.N yqjy yjDy (yd6y g) n:=by intro ps; unfold yd6y; split; exact .inr fun R K=>(by kernel_rfl); exact .inl fun R K=>rfl
theorem yBfy [Fuel]:yaby (yiBy yeby) NN yqjy:=yacy yjDy (yd6y yeby) (by kernel_rfl) yCRy (cuts0 (fun _=>rfl) (by kernel_rfl)) (fun ps R K=>by unfold yd6y; split <;> (try unfold z22z_L24) <;> rfl) (yFvy yeby)
noncomputable def yqiy:Code:=sub [1,1,1,1,1,0,1,0,0] ymIy
theorem yEMy (g:C_z22z) (n:Nat):yaiy (yiBy g) g.N yqiy yjHy (yd7y g) n:=by intro ps; unfold yd7y; split; exact .inr fun R K=>(by kernel_rfl); exact .inl fun R K=>rfl
theorem yB4y [Fuel]:yaby (yiBy yeby) NN yqiy:=yacy yjHy (yd7y yeby) (by kernel_rfl) yCRy (cuts0 (fun _=>rfl) (by kernel_rfl)) (fun ps R K=>by unfold yd7y; split <;> (try unfold z22z_L31) <;> rfl) (yEMy yeby)
theorem yMsy (g:C_z22z):Same (yksy (@z22z_ g)) (abody (yiBy g) Tryz.f179 ymIy 0 [] [.asis] g.N):=by intro args; unfold yksy; split; exact .inr fun R k=>(by kernel_rfl); exact .inl fun R k=>rfl
theorem yD8y [Fuel]:Ok 179 (yksy (@z22z _)):=yaay std (.cons yCNy (.cons yCVy (.cons yfty (.cons yCCy .nil)))) ⟨rfl,rfl,by kernel_rfl,rfl,rfl,rfl⟩ (yMsy yeby) (cutsL (fun _=>rfl) (.cons yB3y (.cons yBfy (.cons yB4y .nil))) (by kernel_rfl)) Tryz.func179 (by kernel_rfl) (by kernel_rfl)
abbrev ys7y:Type 1:=Int→Int→Int→{R:Type}→(Bool→Option R)→Option R
def R_in_ (g:Nat) (a1 a2 a3:Int) {R:Type} (k0:Bool→Option R):Option R :=
 (bif (decide (a2≤a1)) then k0 (decide (a1≤a3)) else k0 false)
noncomputable def R_in [Fuel]:ys7y:=@R_in_ NN
def yj7y (g:ys7y):Spec A:=fun args=>match args with | [.d (.int .i64 a1),.d (.int .i64 a2),.d (.int .i64 a3)]=>fun k=>g a1 a2 a3 (fun z0=>k (.d (.bool z0)) [.undef,.undef,.undef]) | _=>fun _=>none
noncomputable def yJGy:Code:=(Tryz.f181.body).getD .skip
noncomputable def yRny (g:Nat):Env A:=mkE [] [] [] [] [] [] [] [] [] []
theorem yOEy (g:Nat):Same (yj7y (@R_in_ g)) (abody (yRny g) Tryz.f181 yJGy 0 [] [.asis] g):=by intro args; unfold yj7y; split; exact .inr fun R k=>(by kernel_rfl); exact .inl fun R k=>rfl
theorem yEay [Fuel]:Ok 181 (yj7y (@R_in _)):=yaay std .nil ⟨rfl,rfl,by kernel_rfl,rfl,rfl,rfl⟩ (yOEy NN) (cuts0 (fun _=>rfl) (by kernel_rfl)) Tryz.func181 (by kernel_rfl) (by kernel_rfl)
abbrev ydWy:Type 1:=List UInt8→List UInt8→{R:Type}→(List UInt8→Option R)→Option R
def strings_Trim [Fuel]:ydWy:=@ytsy
def ygwy (g:ydWy):Spec A:=yjby g
theorem yjny [Fuel]:Ok 107 (ygwy (@strings_Trim _)):=⟨yt7y (yFfy rfl (fun s cs w h1 h2 h3=>Any.strings_Trim_laid Tryz.lays160 (by kernel_rfl) s cs w h1 h2 h3)),yA2y,yaOy (fn:=Tryz.f107) Tryz.func107 (by kernel_rfl) (by kernel_rfl)⟩
abbrev ybSy:Type 1:=List UInt8→List UInt8→{R:Type}→(Bool→Option R)→Option R
def strings_ContainsAny [Fuel]:ybSy:=@ytjy
def ycyy (g:ybSy):Spec A:=yiPy g
theorem yecy [Fuel]:Ok 182 (ycyy (@strings_ContainsAny _)):=⟨yuzy (yEHy rfl (fun s cs w h1 h2 h3 h4=>Any.strings_ContainsAny_laid Tryz.lays150 (by kernel_rfl) s cs w h1 h2 h3 h4)),yAIy,yaOy (fn:=Tryz.f182) Tryz.func182 (by kernel_rfl) (by kernel_rfl)⟩
abbrev yjsy:Type 1:=List UInt8→Int→Int→{R:Type}→(Bool→Option R)→Option R
structure C_R_plain where
 N:Nat
 strings_Trim:ydWy
 R_in:ys7y
 strings_ContainsAny:ybSy
def yzXy (g:C_R_plain) (a1:List UInt8) (a2 a3:Int) {R:Type} (k0:Bool→Option R):Option R :=
 (g.R_in (a1.length:Int) a2 a3 (fun r4=>(bif r4 then (g.strings_Trim a1 [97,98,99,100,101,102,103,104,105,106,107,108,109,110,111,112,113,114,115,116,117,118,119,120,121,122,48,49,50,51,52,53,54,55,56,57] (fun r5=>(bif (r5 == []) then (g.strings_ContainsAny a1 [97,98,99,100,101,102,103,104,105,106,107,108,109,110,111,112,113,114,115,116,117,118,119,120,121,122] (fun r6=>k0 r6)) else k0 false))) else k0 false)))
noncomputable def yvyy [Fuel]:C_R_plain:=⟨NN,@strings_Trim _,@R_in _,@strings_ContainsAny _⟩
noncomputable def R_plain [Fuel]:yjsy:=@yzXy yvyy
def yfwy (g:yjsy):Spec A:=fun args=>match args with | [.d (.str a1),.d (.int .i64 a2),.d (.int .i64 a3)]=>fun k=>g a1 a2 a3 (fun z0=>k (.d (.bool z0)) [.undef,.undef,.undef]) | _=>fun _=>none
noncomputable def yKTy:Code:=(Tryz.f180.body).getD .skip
noncomputable def yHhy (g:C_R_plain):Env A:=mkE [(107,ygwy g.strings_Trim),(181,yj7y g.R_in),(182,ycyy g.strings_ContainsAny)] [] [] [] [] [] [] [] [] []
theorem yFZy (g:C_R_plain):Same (yfwy (@yzXy g)) (abody (yHhy g) Tryz.f180 yKTy 0 [] [.asis] g.N):=by intro args; unfold yfwy; split; exact .inr fun R k=>(by kernel_rfl); exact .inl fun R k=>rfl
theorem ysYy [Fuel]:Ok 180 (yfwy (@R_plain _)):=yaay std (.cons yjny (.cons yEay (.cons yecy .nil))) ⟨rfl,rfl,by kernel_rfl,rfl,rfl,rfl⟩ (yFZy yvyy) (cuts0 (fun _=>rfl) (by kernel_rfl)) Tryz.func180 (by kernel_rfl) (by kernel_rfl)
end Go.Am
