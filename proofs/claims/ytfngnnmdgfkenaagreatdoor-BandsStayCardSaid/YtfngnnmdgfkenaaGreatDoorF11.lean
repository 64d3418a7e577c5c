/- The functions of the program as Lean functions, each shown to be what the code computes, part 11. No condition: lemmas for the claim. -/
import Derived.Test.YtfngnnmdgfkenaaGreatDoorF0
import Derived.Test.YtfngnnmdgfkenaaGreatDoorFSh
import Derived.Test.YtfngnnmdgfkenaaGreatDoorF3
import Derived.Test.YtfngnnmdgfkenaaGreatDoorF8
import Derived.Test.YtfngnnmdgfkenaaGreatDoorF9
import Derived.Test.YtfngnnmdgfkenaaGreatDoorF10
set_option linter.unusedVariables false
set_option maxRecDepth 100000
namespace Go.Am
open Go Go.Proofs
abbrev T_z0z:Type 1:=List G_Spot→Int→Int→Bool→Int→{R:Type}→(List G_Spot→Int→Bool→Int→Option R)→Option R
structure C_z0z where
 N:Nat
 z3z:T_z3z
def z0z_L2 (g:C_z0z):Nat→Int→Int→Int→Int→List G_Spot→Int→Bool→Int→{R:Type}→(Int→Int→Int→List G_Spot→Int→Bool→Int→Option R)→Option R
 | 0,_,_,_,_,_,_,_,_,_,_=>none
 | n + 1,v6,v7,v8,v9,v10,v11,v12,v13,_,e0=>(bif (decide (v9≤v6)) then (g.z3z v10 v8 v9 v11 v12 v13 (fun r18 r19 r20 r21=>z0z_L2 g n v6 v7 v9 (w64 (v9 + v7)) r18 r19 r20 r21 e0)) else e0 v6 v7 v8 v10 v11 v12 v13)
def z0z_L9 (g:C_z0z):Nat→Int→Int→Int→Int→List G_Spot→Int→Bool→Int→{R:Type}→(Int→Int→Int→List G_Spot→Int→Bool→Int→Option R)→Option R
 | 0,_,_,_,_,_,_,_,_,_,_=>none
 | n + 1,v54,v55,v56,v57,v58,v59,v60,v61,_,e0=>(bif (decide (v57≤v54)) then none else e0 v54 v55 v56 v58 v59 v60 v61)
def z0z_L7 (g:C_z0z):Nat→Int→Int→List G_Spot→Int→Bool→Int→{R:Type}→(List G_Spot→Int→Bool→Int→Option R)→Option R
 | 0,_,_,_,_,_,_,_,_=>none
 | n + 1,v33,v34,v35,v36,v37,v38,_,e0=>(bif (decide (v34 < v33)) then (z0z_L9 g g.N v33 v34 0 (w64 (2 * v34)) v35 v36 v37 v38 (fun e62 e63 e64 e65 e66 e67 e68=>(bif (decide ((w64 (e64 + e63)) < e62)) then none else z0z_L7 g n e62 (w64 (e63 * 2)) e65 e66 e67 e68 e0))) else e0 v35 v36 v37 v38)
def z0z_ (g:C_z0z) (a1:List G_Spot) (a2 a3:Int) (a4:Bool) (a5:Int) {R:Type} (k0:List G_Spot→Int→Bool→Int→Option R):Option R :=
 (z0z_L2 g g.N a2 20 0 20 a1 a3 a4 a5 (fun e22 e23 e24 e25 e26 e27 e28=>(g.z3z e25 e24 e22 e26 e27 e28 (fun r29 r30 r31 r32=>(z0z_L7 g g.N e22 e23 r29 r30 r31 r32 (fun e69 e70 e71 e72=>k0 e69 e70 e71 e72))))))
noncomputable def I_z0z [Fuel]:C_z0z:=⟨NN,@z3z _⟩
noncomputable def z0z [Fuel]:T_z0z:=@z0z_ I_z0z
def ysWy (g:T_z0z):Spec A:=fun args=>match args with | [.arr 45 a1,.d (.int .i64 a2),.fn 85 [.box [.fn 82 [.cel [.int .i64 a3] 0,.cel [.bool a4] 0]],.box [.fn 83 [.cel [.int .i64 a5] 0]]]]=>fun k=>g a1 a2 a3 a4 a5 (fun z0 z1 z2 z3=>k (.tup []) [.arr 45 z0,.undef,.fn 85 [.box [.fn 82 [.cel [.int .i64 z1] 0,.cel [.bool z2] 0]],.box [.fn 83 [.cel [.int .i64 z3] 0]]]]) | _=>fun _=>none
def ynly:SSt:=mkSh 63 3 [(0,.own 45 0),(1,.int .i64),(2,.fn 85 [.ptr 1 0,.ptr 2 0]),(6,.int .i64),(7,.int .i64),(8,.int .i64)] [(0,.row 45),(1,.box [.fn 82 [.cel [.int .i64] 0,.cel [.bool] 0]]),(2,.box [.fn 83 [.cel [.int .i64] 0]])]
def yhHy (g:C_z0z) (n:Nat):LPT A:=fun ps=>match ps with | [.d (.int .i64 p1),.d (.int .i64 p2),.d (.int .i64 p3),.d (.int .i64 p4),.d (.sl 45 p5),.d (.int .i64 p6),.d (.bool p7),.d (.int .i64 p8)]=>fun K=>z0z_L2 g n p1 p2 p3 p4 p5 p6 p7 p8 (fun z0 z1 z2 z3 z4 z5 z6=>K (.exit 0) (mkSt 63 3 [(0,.own 45 0),(1,.d (.int .i64 z0)),(2,.fn 85 [.ptr 1 0,.ptr 2 0]),(6,.d (.int .i64 z1)),(7,.d (.int .i64 z2))] [(0,some (.row 45 z3)),(1,some (.box [.fn 82 [.cel [.int .i64 z4] 0,.cel [.bool z5] 0]])),(2,some (.box [.fn 83 [.cel [.int .i64 z6] 0]]))])) | _=>fun _=>none
def ynuy:SSt:=mkSh 63 3 [(0,.own 45 0),(1,.int .i64),(2,.fn 85 [.ptr 1 0,.ptr 2 0]),(6,.int .i64),(7,.int .i64),(8,.int .i64)] [(0,.row 45),(1,.box [.fn 82 [.cel [.int .i64] 0,.cel [.bool] 0]]),(2,.box [.fn 83 [.cel [.int .i64] 0]])]
def yhly (g:C_z0z) (n:Nat):LPT A:=fun ps=>match ps with | [.d (.int .i64 p1),.d (.int .i64 p2),.d (.int .i64 p3),.d (.int .i64 p4),.d (.sl 45 p5),.d (.int .i64 p6),.d (.bool p7),.d (.int .i64 p8)]=>fun K=>z0z_L9 g n p1 p2 p3 p4 p5 p6 p7 p8 (fun z0 z1 z2 z3 z4 z5 z6=>K (.exit 4) (mkSt 63 3 [(0,.own 45 0),(1,.d (.int .i64 z0)),(2,.fn 85 [.ptr 1 0,.ptr 2 0]),(6,.d (.int .i64 z1)),(7,.d (.int .i64 z2))] [(0,some (.row 45 z3)),(1,some (.box [.fn 82 [.cel [.int .i64 z4] 0,.cel [.bool z5] 0]])),(2,some (.box [.fn 83 [.cel [.int .i64 z6] 0]]))])) | _=>fun _=>none
def yoty:SSt:=mkSh 63 3 [(0,.own 45 0),(1,.int .i64),(2,.fn 85 [.ptr 1 0,.ptr 2 0]),(6,.int .i64)] [(0,.row 45),(1,.box [.fn 82 [.cel [.int .i64] 0,.cel [.bool] 0]]),(2,.box [.fn 83 [.cel [.int .i64] 0]])]
def yhMy (g:C_z0z) (n:Nat):LPT A:=fun ps=>match ps with | [.d (.int .i64 p1),.d (.int .i64 p2),.d (.sl 45 p3),.d (.int .i64 p4),.d (.bool p5),.d (.int .i64 p6)]=>fun K=>z0z_L7 g n p1 p2 p3 p4 p5 p6 (fun z0 z1 z2 z3=>K (.exit 2) (mkSt 63 3 [(0,.own 45 0),(2,.fn 85 [.ptr 1 0,.ptr 2 0])] [(0,some (.row 45 z0)),(1,some (.box [.fn 82 [.cel [.int .i64 z1] 0,.cel [.bool z2] 0]])),(2,some (.box [.fn 83 [.cel [.int .i64 z3] 0]]))])) | _=>fun _=>none
noncomputable def E_z0z (g:C_z0z):Env A:=mkE [(112,ysEy g.z3z)] [] [(2,⟨[0,1,2,6,7,8],[],[0,1,2],[],[],[],[]⟩),(9,⟨[0,1,2,6,7,8],[],[0,1,2],[],[],[],[]⟩),(7,⟨[0,1,2,6],[],[0,1,2],[],[],[],[]⟩)] [(2,⟨[0,1,2,6,7],[],[0,1,2],[],[],[],[]⟩),(9,⟨[0,1,2,6,7],[],[0,1,2],[],[],[],[]⟩),(7,⟨[0,2],[],[0,1,2],[],[],[],[]⟩)] [(2,yady ynly (yhHy g g.N)),(9,yady ynuy (yhly g g.N)),(7,yady yoty (yhMy g g.N))] [] [] [] [(112,0)] [0,2]
theorem yzLy [Fuel]:yahy (E_z0z I_z0z).C:=ct_of (P:=Tryz.prog) (T:=T) (.cons yGsy .nil) (by kernel_rfl)
noncomputable def yvNy:Code:=sub [1,1,0,0,0] ycdy
theorem yKWy (g:C_z0z) (n:Nat):yaiy (E_z0z g) g.N yvNy ynly (yhHy g) n:=by intro ps; unfold yhHy; split; exact .inr fun R K=>(by kernel_rfl); exact .inl fun R K=>rfl
theorem yH5y [Fuel]:yaby (E_z0z I_z0z) NN yvNy:=yacy ynly (yhHy I_z0z) (by kernel_rfl) yzLy (cuts0 (fun _=>rfl) (by kernel_rfl)) (fun ps R K=>by unfold yhHy; split <;> (try unfold z0z_L2) <;> rfl) (yKWy I_z0z)
noncomputable def yv7y:Code:=sub [1,1,1,1,0,0,1,0,1,0,0,0] ycdy
theorem yJey (g:C_z0z) (n:Nat):yaiy (E_z0z g) g.N yv7y ynuy (yhly g) n:=by intro ps; unfold yhly; split; exact .inr fun R K=>(by kernel_rfl); exact .inl fun R K=>rfl
theorem ywsy [Fuel]:yaby (E_z0z I_z0z) NN yv7y:=yacy ynuy (yhly I_z0z) (by kernel_rfl) yzLy (cuts0 (fun _=>rfl) (by kernel_rfl)) (fun ps R K=>by unfold yhly; split <;> (try unfold z0z_L9) <;> rfl) (yJey I_z0z)
noncomputable def yvLy:Code:=sub [1,1,1,1,0,0] ycdy
theorem yIWy (g:C_z0z) (n:Nat):yaiy (E_z0z g) g.N yvLy yoty (yhMy g) n:=by intro ps; unfold yhMy; split; exact .inr fun R K=>(by kernel_rfl); exact .inl fun R K=>rfl
theorem yIly [Fuel]:yaby (E_z0z I_z0z) NN yvLy:=yacy yoty (yhMy I_z0z) (by kernel_rfl) yzLy (cutsL (fun _=>rfl) (.cons ywsy .nil) (by kernel_rfl)) (fun ps R K=>by unfold yhMy; split <;> (try unfold z0z_L7) <;> rfl) (yIWy I_z0z)
theorem yQIy (g:C_z0z):Same (ysWy (@z0z_ g)) (abody (E_z0z g) Tryz.f99 ycdy 3 [0,1,2] [] g.N):=by intro args; unfold ysWy; split; exact .inr fun R k=>(by kernel_rfl); exact .inl fun R k=>rfl
theorem yRQy [Fuel]:Ok 99 (ysWy (@z0z _)):=yaay std (.cons yGsy .nil) ⟨rfl,rfl,by kernel_rfl,rfl,rfl,rfl⟩ (yQIy I_z0z) (cutsL (fun _=>rfl) (.cons yH5y (.cons ywsy (.cons yIly .nil))) (by kernel_rfl)) Tryz.func99 (by kernel_rfl) (by kernel_rfl)
abbrev yyQy:Type 1:=List G_Spot→Int→Bool→Int→{R:Type}→(List G_Spot→Int→Bool→Int→Option R)→Option R
structure C_z18z where
 N:Nat
 z0z:T_z0z
def z18z_ (g:C_z18z) (a1:List G_Spot) (a2:Int) (a3:Bool) (a4:Int) {R:Type} (k0:List G_Spot→Int→Bool→Int→Option R):Option R :=
 (g.z0z a1 (a1.length:Int) a2 a3 a4 (fun r5 r6 r7 r8=>k0 r5 r6 r7 r8))
noncomputable def yw9y [Fuel]:C_z18z:=⟨NN,@z0z _⟩
noncomputable def z18z [Fuel]:yyQy:=@z18z_ yw9y
def ypvy (g:yyQy):Spec A:=fun args=>match args with | [.arr 45 a1,.fn 85 [.box [.fn 82 [.cel [.int .i64 a2] 0,.cel [.bool a3] 0]],.box [.fn 83 [.cel [.int .i64 a4] 0]]]]=>fun k=>g a1 a2 a3 a4 (fun z0 z1 z2 z3=>k (.tup []) [.arr 45 z0,.fn 85 [.box [.fn 82 [.cel [.int .i64 z1] 0,.cel [.bool z2] 0]],.box [.fn 83 [.cel [.int .i64 z3] 0]]]]) | _=>fun _=>none
noncomputable def yRey (g:C_z18z):Env A:=mkE [(99,ysWy g.z0z)] [] [] [] [] [] [] [] [(99,0)] [0,1]
theorem yOCy (g:C_z18z):Same (ypvy (@z18z_ g)) (abody (yRey g) Tryz.f55 yuay 3 [0,1,2] [] g.N):=by intro args; unfold ypvy; split; exact .inr fun R k=>(by kernel_rfl); exact .inl fun R k=>rfl
theorem yD9y [Fuel]:Ok 55 (ypvy (@z18z _)):=yaay std (.cons yRQy .nil) ⟨rfl,rfl,by kernel_rfl,rfl,rfl,rfl⟩ (yOCy yw9y) (cuts0 (fun _=>rfl) (by kernel_rfl)) Tryz.func55 (by kernel_rfl) (by kernel_rfl)
abbrev ylXy:Type 1:=List G_Spot→Int→Bool→{R:Type}→(List (List UInt8)→Option R)→Option R
structure C_band_way where
 N:Nat
 z18z:yyQy
 z104z:yu2y
def ycuy (g:C_band_way):Nat→Int→Int→List G_Spot→List (List UInt8)→{R:Type}→(List (List UInt8)→Option R)→Option R
 | 0,_,_,_,_,_,_=>none
 | n + 1,v9,v10,v11,v12,_,e0=>(bif (decide (v10 < v9)) then (inr v11 v10 (at_ v11 v10 fun x14=>(bif (decide ((v12.length + [x14.f_Call].length) * 16≤yagy)) then ycuy g n v9 (w64 (v10 + 1)) v11 (v12 ++ [x14.f_Call]) e0 else none))) else e0 v12)
def ywjy (g:C_band_way) (a1:List G_Spot) (a2:Int) (a3:Bool) {R:Type} (k0:List (List UInt8)→Option R):Option R :=
 (g.z104z a1 (fun r4=>(g.z18z r4 a2 a3 a2 (fun r5 r6 r7 r8=>(ycuy g g.N (r5.length:Int) 0 r5 [] (fun e15=>k0 e15))))))
noncomputable def ycYy [Fuel]:C_band_way:=⟨NN,@z18z _,@z104z _⟩
noncomputable def band_way [Fuel]:ylXy:=@ywjy ycYy
def yg6y (g:ylXy):Spec A:=fun args=>match args with | [.d (.sl 45 a1),.d (.int .i64 a2),.d (.bool a3)]=>fun k=>g a1 a2 a3 (fun z0=>k (.arr 9 z0) [.undef,.undef,.undef]) | _=>fun _=>none
def ygQy:SSt:=mkSh 33 9 [(10,.own 9 5),(20,.own 45 4),(21,.int .i64),(22,.int .i64)] [(4,.row 45),(5,.row 9)]
def ycLy (g:C_band_way) (n:Nat):LPT A:=fun ps=>match ps with | [.d (.int .i64 p1),.d (.int .i64 p2),.d (.sl 45 p3),.d (.sl 9 p4)]=>fun K=>ycuy g n p1 p2 p3 p4 (fun z0=>K (.exit 0) (mkSt 33 9 [(10,.own 9 5)] [(5,some (.row 9 z0))])) | _=>fun _=>none
noncomputable def yC3y:Code:=(Tryz.f44.body).getD .skip
noncomputable def yiey (g:C_band_way):Env A:=mkE [(55,ypvy g.z18z),(84,yiLy g.z104z)] [(4,[0]),(5,[1]),(7,[2]),(8,[3]),(12,[6]),(16,[4]),(29,[7]),(30,[8])] [(7,⟨[10,20,21,22],[(10,9,5)],[4],[],[],[],[]⟩)] [(7,⟨[10],[],[5],[],[],[],[]⟩)] [(7,yady ygQy (ycLy g g.N))] [(4,⟨[7,8,9],[],[2,3,4],[],[],[],[0,1]⟩)] [] [] [(55,0)] []
theorem yBTy [Fuel]:yahy (yiey ycYy).C:=ct_of (P:=Tryz.prog) (T:=T) (.cons yD9y (.cons yywy .nil)) (by kernel_rfl)
noncomputable def yj6y:Code:=sub [1,1,1,1,1,1,0,1,0,0] yC3y
theorem yw0y (g:C_band_way) (n:Nat):yaiy (yiey g) g.N yj6y ygQy (ycLy g) n:=by intro ps; unfold ycLy; split; exact .inr fun R K=>(by kernel_rfl); exact .inl fun R K=>rfl
theorem yuqy [Fuel]:yaby (yiey ycYy) NN yj6y:=yacy ygQy (ycLy ycYy) (by kernel_rfl) yBTy (cuts0 (fun _=>rfl) (by kernel_rfl)) (fun ps R K=>by unfold ycLy; split <;> (try unfold ycuy) <;> rfl) (yw0y ycYy)
theorem yB6y (g:C_band_way):Same (yg6y (@ywjy g)) (abody (yiey g) Tryz.f44 yC3y 9 [] [.arr 9] g.N):=by intro args; unfold yg6y; split; exact .inr fun R k=>(by kernel_rfl); exact .inl fun R k=>rfl
theorem yqIy [Fuel]:Ok 44 (yg6y (@band_way _)):=yaay std (.cons yD9y (.cons yywy .nil)) ⟨rfl,rfl,by kernel_rfl,rfl,rfl,rfl⟩ (yB6y ycYy) (cutsL (fun _=>rfl) (.cons yuqy .nil) (by kernel_rfl)) Tryz.func44 (by kernel_rfl) (by kernel_rfl)
abbrev yiXy:Type 1:=List G_Band→List G_Spot→Int→Int→Int→{R:Type}→(List (List UInt8)→Int→Int→Option R)→Option R
structure C_band_Sweep where
 N:Nat
 z89z:ytSy
 z88z:ysRy
 band_heard:yfGy
 band_way:ylXy
def ybBy (g:C_band_Sweep):Nat→Int→Int→Int→Int→Int→List G_Spot→{R:Type}→(Int→Int→Int→List G_Spot→Option R)→Option R
 | 0,_,_,_,_,_,_,_,_=>none
 | n + 1,v10,v11,v12,v13,v14,v15,_,e0=>(bif (decide (v14 < v13)) then (inr v15 v14 (at_ v15 v14 fun x17=>ybBy g n v10 (if (w64 (v10 - x17.f_Hertz)) > v11 then (w64 (v10 - x17.f_Hertz)) else v11) (if (w64 (x17.f_Hertz - v10)) > v12 then (w64 (x17.f_Hertz - v10)) else v12) v13 (w64 (v14 + 1)) v15 e0)) else e0 v10 v11 v12 v15)
def yjPy (g:C_band_Sweep) (a1:List G_Band) (a2:List G_Spot) (a3 a4 a5:Int) {R:Type} (k0:List (List UInt8)→Int→Int→Option R):Option R :=
 (g.z89z a1 a2 (fun r6=>(bif (r6 != 0) then k0 [] 0 r6 else (g.z88z a3 a4 a5 (fun r7=>(bif (r7 != 0) then k0 [] 0 r7 else (g.band_heard a1 a2 a3 a4 (fun r8 r9=>(ybBy g g.N a5 0 0 (r8.length:Int) 0 r8 (fun e18 e19 e20 e21=>(bif (e20 == 0) then (bif (e19 == 0) then (bif (decide (e19≤e20)) then (g.band_way e21 e18 true (fun r22=>k0 r22 e19 0)) else (g.band_way e21 e18 false (fun r23=>k0 r23 e20 0))) else (bif (decide (e19≤(w64 ((w64 (2 * e20)) + e19)))) then (g.band_way e21 e18 true (fun r24=>k0 r24 e19 0)) else (g.band_way e21 e18 false (fun r25=>k0 r25 (w64 ((w64 (2 * e20)) + e19)) 0)))) else (bif (e19 == 0) then (bif (decide ((w64 ((w64 (2 * e19)) + e20))≤e20)) then (g.band_way e21 e18 true (fun r26=>k0 r26 (w64 ((w64 (2 * e19)) + e20)) 0)) else (g.band_way e21 e18 false (fun r27=>k0 r27 e20 0))) else (bif (decide ((w64 ((w64 (2 * e19)) + e20))≤(w64 ((w64 (2 * e20)) + e19)))) then (g.band_way e21 e18 true (fun r28=>k0 r28 (w64 ((w64 (2 * e19)) + e20)) 0)) else (g.band_way e21 e18 false (fun r29=>k0 r29 (w64 ((w64 (2 * e20)) + e19)) 0)))))))))))))))
noncomputable def ybry [Fuel]:C_band_Sweep:=⟨NN,@z89z _,@z88z _,@band_heard _,@band_way _⟩
noncomputable def band_Sweep [Fuel]:yiXy:=@yjPy ybry
def yevy (g:yiXy):Spec A:=fun args=>match args with | [.d (.sl 62 a1),.d (.sl 45 a2),.d (.int .i64 a3),.d (.int .i64 a4),.d (.int .i64 a5)]=>fun k=>g a1 a2 a3 a4 a5 (fun z0 z1 z2=>k (.tup [.arr 9 z0,.d (.int .i64 z1),.d (.int .i64 z2)]) [.undef,.undef,.undef,.undef,.undef]) | _=>fun _=>none
def yd5y:SSt:=mkSh 88 5 [(4,.int .i64),(15,.own 45 0),(17,.int .i64),(18,.int .i64),(44,.own 45 0),(45,.int .i64),(46,.int .i64)] [(0,.row 45)]
def ybWy (g:C_band_Sweep) (n:Nat):LPT A:=fun ps=>match ps with | [.d (.int .i64 p1),.d (.int .i64 p2),.d (.int .i64 p3),.d (.int .i64 p4),.d (.int .i64 p5),.d (.sl 45 p6)]=>fun K=>ybBy g n p1 p2 p3 p4 p5 p6 (fun z0 z1 z2 z3=>K (.exit 0) (mkSt 88 5 [(4,.d (.int .i64 z0)),(15,.own 45 0),(17,.d (.int .i64 z1)),(18,.d (.int .i64 z2))] [(0,some (.row 45 z3))])) | _=>fun _=>none
noncomputable def yDry:Code:=(Tryz.f13.body).getD .skip
noncomputable def ygmy (g:C_band_Sweep):Env A:=mkE [(41,ykyy g.z89z),(42,ykay g.z88z),(43,ybiy g.band_heard),(44,yg6y g.band_way)] [(20,[2]),(41,[0,1]),(82,[3]),(86,[4])] [(10,⟨[4,15,17,18,44,45,46],[],[0],[],[],[],[]⟩)] [(10,⟨[4,15,17,18],[],[0],[],[],[],[]⟩)] [(10,yady yd5y (ybWy g g.N))] [] [] [] [] []
theorem ywDy [Fuel]:yahy (ygmy ybry).C:=ct_of (P:=Tryz.prog) (T:=T) (.cons yuJy (.cons yt9y (.cons yhZy (.cons yqIy .nil)))) (by kernel_rfl)
noncomputable def yh3y:Code:=sub [1,1,1,1,1,0,1,0,0] yDry
theorem yqZy (g:C_band_Sweep) (n:Nat):yaiy (ygmy g) g.N yh3y yd5y (ybWy g) n:=by intro ps; unfold ybWy; split; exact .inr fun R K=>(by kernel_rfl); exact .inl fun R K=>rfl
theorem ypVy [Fuel]:yaby (ygmy ybry) NN yh3y:=yacy yd5y (ybWy ybry) (by kernel_rfl) ywDy (cuts0 (fun _=>rfl) (by kernel_rfl)) (fun ps R K=>by unfold ybWy; split <;> (try unfold ybBy) <;> rfl) (yqZy ybry)
theorem ywIy (g:C_band_Sweep):Same (yevy (@yjPy g)) (abody (ygmy g) Tryz.f13 yDry 5 [] [.arr 9,.asis,.asis] g.N):=by intro args; unfold yevy; split; exact .inr fun R k=>(by kernel_rfl); exact .inl fun R k=>rfl
theorem ywAy [Fuel]:Ok 13 (yevy (@band_Sweep _)):=yaay std (.cons yuJy (.cons yt9y (.cons yhZy (.cons yqIy .nil)))) ⟨rfl,rfl,by kernel_rfl,rfl,rfl,rfl⟩ (ywIy ybry) (cutsL (fun _=>rfl) (.cons ypVy .nil) (by kernel_rfl)) Tryz.func13 (by kernel_rfl) (by kernel_rfl)
abbrev yyUy:Type 1:=List Int→List Int→{R:Type}→(Bool→Option R)→Option R
def z72z_L4 (g:Nat):Nat→List Int→List Int→Int→Int→{R:Type}→(Bool→Option R)→Option R→Option R
 | 0,_,_,_,_,_,_,_=>none
 | n + 1,v3,v4,v5,v6,_,e0,e1=>(bif (decide (v6 < v5)) then (get_ v3 v6 fun x9=>(get_ v4 v6 fun x10=>(bif (x9 != x10) then e0 false else z72z_L4 g n v3 v4 v5 (w64 (v6 + 1)) e0 e1))) else e1)
def z72z_ (g:Nat) (a1 a2:List Int) {R:Type} (k0:Bool→Option R):Option R :=
 (bif ((a1.length:Int) != (a2.length:Int)) then k0 false else (z72z_L4 g g a1 a2 (a1.length:Int) 0 (fun e11=>k0 e11) (k0 true)))
noncomputable def z72z [Fuel]:yyUy:=@z72z_ NN
def ypmy (g:yyUy):Spec A:=fun args=>match args with | [.d (.sl 3 a1),.d (.sl 3 a2)]=>fun k=>g a1 a2 (fun z0=>k (.d (.bool z0)) [.undef,.undef]) | _=>fun _=>none
def ylny:SSt:=mkSh 26 0 [(0,.sl 3),(1,.sl 3),(12,.int .i64),(13,.int .i64)] []
def yfpy (g:Nat) (n:Nat):LPT A:=fun ps=>match ps with | [.d (.sl 3 p1),.d (.sl 3 p2),.d (.int .i64 p3),.d (.int .i64 p4)]=>fun K=>z72z_L4 g n p1 p2 p3 p4 (fun z0=>K .ret (mkSt 26 0 [(4,.d (.bool z0))] [])) (K (.exit 0) (mkSt 26 0 [] [])) | _=>fun _=>none
noncomputable def yCZy:Code:=(Tryz.f15.body).getD .skip
noncomputable def yrFy (g:Nat):Env A:=mkE [] [] [(4,⟨[0,1,12,13],[],[],[],[],[],[]⟩)] [(4,⟨[4],[],[],[],[],[],[]⟩)] [(4,yady ylny (yfpy g g))] [] [] [] [] []
theorem yMZy [Fuel]:yahy (yrFy NN).C:=ct_of (P:=Tryz.prog) (T:=T) .nil (by kernel_rfl)
noncomputable def ytFy:Code:=sub [1,1,0,1,0,0] yCZy
theorem yGmy (g:Nat) (n:Nat):yaiy (yrFy g) g ytFy ylny (yfpy g) n:=by intro ps; unfold yfpy; split; exact .inr fun R K=>(by kernel_rfl); exact .inl fun R K=>rfl
theorem yEUy [Fuel]:yaby (yrFy NN) NN ytFy:=yacy ylny (yfpy NN) (by kernel_rfl) yMZy (cuts0 (fun _=>rfl) (by kernel_rfl)) (fun ps R K=>by unfold yfpy; split <;> (try unfold z72z_L4) <;> rfl) (yGmy NN)
theorem yPly (g:Nat):Same (ypmy (@z72z_ g)) (abody (yrFy g) Tryz.f15 yCZy 0 [] [.asis] g):=by intro args; unfold ypmy; split; exact .inr fun R k=>(by kernel_rfl); exact .inl fun R k=>rfl
theorem yNIy [Fuel]:Ok 15 (ypmy (@z72z _)):=yaay std .nil ⟨rfl,rfl,by kernel_rfl,rfl,rfl,rfl⟩ (yPly NN) (cutsL (fun _=>rfl) (.cons yEUy .nil) (by kernel_rfl)) Tryz.func15 (by kernel_rfl) (by kernel_rfl)
abbrev yxjy:Type 1:=G_Segment→G_Segment→{R:Type}→(Bool→Option R)→Option R
structure C_z31z where
 N:Nat
 z72z:yyUy
def z31z_ (g:C_z31z) (a1 a2:G_Segment) {R:Type} (k0:Bool→Option R):Option R :=
 (bif (a1.f_Class == a2.f_Class) then (bif (a1.f_Low == a2.f_Low) then (bif (a1.f_High == a2.f_High) then (bif (yj3y a1.f_Time a2.f_Time) then (g.z72z a1.f_Modes a2.f_Modes (fun r3=>k0 r3)) else k0 false) else k0 false) else k0 false) else k0 false)
noncomputable def yACy [Fuel]:C_z31z:=⟨NN,@z72z _⟩
noncomputable def z31z [Fuel]:yxjy:=@z31z_ yACy
def ypxy (g:yxjy):Spec A:=fun args=>match args with | [.agg [.d (.str a1),.d (.int .i64 a2),.d (.int .i64 a3),.d (.sl 3 a4),.d (.int .i64 a5),.d (.int .i64 a6)],.agg [.d (.str a7),.d (.int .i64 a8),.d (.int .i64 a9),.d (.sl 3 a10),.d (.int .i64 a11),.d (.int .i64 a12)]]=>fun k=>g ⟨a1,a2,a3,a4,⟨a5,a6⟩⟩ ⟨a7,a8,a9,a10,⟨a11,a12⟩⟩ (fun z0=>k (.d (.bool z0)) [.undef,.undef]) | _=>fun _=>none
noncomputable def yMJy:Code:=(Tryz.f14.body).getD .skip
noncomputable def yQGy (g:C_z31z):Env A:=mkE [(15,ypmy g.z72z)] [(2,[0]),(3,[1])] [] [] [] [] [] [] [] []
theorem yQfy (g:C_z31z):Same (ypxy (@z31z_ g)) (abody (yQGy g) Tryz.f14 yMJy 2 [] [.asis] g.N):=by intro args; unfold ypxy; split; exact .inr fun R k=>(by kernel_rfl); exact .inl fun R k=>rfl
theorem yDny [Fuel]:Ok 14 (ypxy (@z31z _)):=yaay std (.cons yNIy .nil) ⟨rfl,rfl,by kernel_rfl,rfl,rfl,rfl⟩ (yQfy yACy) (cuts0 (fun _=>rfl) (by kernel_rfl)) Tryz.func14 (by kernel_rfl) (by kernel_rfl)
abbrev yydy:Type 1:=List G_Segment→List G_Segment→{R:Type}→(Bool→Option R)→Option R
structure C_z12z where
 N:Nat
 z31z:yxjy
def z12z_L4 (g:C_z12z):Nat→List G_Segment→List G_Segment→Int→Int→{R:Type}→(Bool→Option R)→Option R→Option R
 | 0,_,_,_,_,_,_,_=>none
 | n + 1,v3,v4,v5,v6,_,e0,e1=>(bif (decide (v6 < v5)) then (get_ v4 v6 fun x10=>(get_ v3 v6 fun x11=>(g.z31z x10 x11 (fun r12=>(bif (!r12) then e0 false else z12z_L4 g n v3 v4 v5 (w64 (v6 + 1)) e0 e1))))) else e1)
def z12z_ (g:C_z12z) (a1 a2:List G_Segment) {R:Type} (k0:Bool→Option R):Option R :=
 (bif ((a1.length:Int) != (a2.length:Int)) then k0 false else (z12z_L4 g g.N a2 a1 (a1.length:Int) 0 (fun e13=>k0 e13) (k0 true)))
noncomputable def yeoy [Fuel]:C_z12z:=⟨NN,@z31z _⟩
noncomputable def z12z [Fuel]:yydy:=@z12z_ yeoy
def yoHy (g:yydy):Spec A:=fun args=>match args with | [.d (.sl 52 a1),.d (.sl 52 a2),.fn 14 []]=>fun k=>g a1 a2 (fun z0=>k (.d (.bool z0)) [.undef,.undef,.fn 14 []]) | _=>fun _=>none
def yk8y:SSt:=mkSh 32 2 [(1,.sl 52),(2,.fn 14 []),(15,.sl 52),(16,.int .i64),(17,.int .i64)] []
def ygty (g:C_z12z) (n:Nat):LPT A:=fun ps=>match ps with | [.d (.sl 52 p1),.d (.sl 52 p2),.d (.int .i64 p3),.d (.int .i64 p4)]=>fun K=>z12z_L4 g n p1 p2 p3 p4 (fun z0=>K .ret (mkSt 32 2 [(2,.fn 14 []),(6,.d (.bool z0))] [])) (K (.exit 0) (mkSt 32 2 [(2,.fn 14 [])] [])) | _=>fun _=>none
noncomputable def yD6y:Code:=(Tryz.f16.body).getD .skip
noncomputable def yssy (g:C_z12z):Env A:=mkE [(14,ypxy g.z31z)] [(8,[0]),(9,[1])] [(4,⟨[1,2,15,16,17],[],[],[],[],[],[]⟩)] [(4,⟨[2,6],[],[],[],[],[],[]⟩)] [(4,yady yk8y (ygty g g.N))] [] [] [] [] [2]
theorem yPdy [Fuel]:yahy (yssy yeoy).C:=ct_of (P:=Tryz.prog) (T:=T) (.cons yDny .nil) (by kernel_rfl)
noncomputable def yrYy:Code:=sub [1,1,0,1,0,0] yD6y
theorem yGgy (g:C_z12z) (n:Nat):yaiy (yssy g) g.N yrYy yk8y (ygty g) n:=by intro ps; unfold ygty; split; exact .inr fun R K=>(by kernel_rfl); exact .inl fun R K=>rfl
theorem yERy [Fuel]:yaby (yssy yeoy) NN yrYy:=yacy yk8y (ygty yeoy) (by kernel_rfl) yPdy (cuts0 (fun _=>rfl) (by kernel_rfl)) (fun ps R K=>by unfold ygty; split <;> (try unfold z12z_L4) <;> rfl) (yGgy yeoy)
theorem yN2y (g:C_z12z):Same (yoHy (@z12z_ g)) (abody (yssy g) Tryz.f16 yD6y 2 [] [.asis] g.N):=by intro args; unfold yoHy; split; exact .inr fun R k=>(by kernel_rfl); exact .inl fun R k=>rfl
theorem yPKy [Fuel]:Ok 16 (yoHy (@z12z _)):=yaay std (.cons yDny .nil) ⟨rfl,rfl,by kernel_rfl,rfl,rfl,rfl⟩ (yN2y yeoy) (cutsL (fun _=>rfl) (.cons yERy .nil) (by kernel_rfl)) Tryz.func16 (by kernel_rfl) (by kernel_rfl)
abbrev yzzy:Type 1:=List G_Busy→List G_Busy→{R:Type}→(Bool→Option R)→Option R
def z66z_L4 (g:Nat):Nat→List G_Busy→List G_Busy→Int→Int→{R:Type}→(Bool→Option R)→Option R→Option R
 | 0,_,_,_,_,_,_,_=>none
 | n + 1,v3,v4,v5,v6,_,e0,e1=>(bif (decide (v6 < v5)) then (get_ v3 v6 fun x9=>(get_ v4 v6 fun x10=>(bif (!(yhAy x9 x10)) then e0 false else z66z_L4 g n v3 v4 v5 (w64 (v6 + 1)) e0 e1))) else e1)
def z66z_ (g:Nat) (a1 a2:List G_Busy) {R:Type} (k0:Bool→Option R):Option R :=
 (bif ((a1.length:Int) != (a2.length:Int)) then k0 false else (z66z_L4 g g a1 a2 (a1.length:Int) 0 (fun e11=>k0 e11) (k0 true)))
noncomputable def z66z [Fuel]:yzzy:=@z66z_ NN
def yoLy (g:yzzy):Spec A:=fun args=>match args with | [.d (.sl 58 a1),.d (.sl 58 a2)]=>fun k=>g a1 a2 (fun z0=>k (.d (.bool z0)) [.undef,.undef]) | _=>fun _=>none
def ylPy:SSt:=mkSh 26 0 [(0,.sl 58),(1,.sl 58),(12,.int .i64),(13,.int .i64)] []
def ye9y (g:Nat) (n:Nat):LPT A:=fun ps=>match ps with | [.d (.sl 58 p1),.d (.sl 58 p2),.d (.int .i64 p3),.d (.int .i64 p4)]=>fun K=>z66z_L4 g n p1 p2 p3 p4 (fun z0=>K .ret (mkSt 26 0 [(4,.d (.bool z0))] [])) (K (.exit 0) (mkSt 26 0 [] [])) | _=>fun _=>none
noncomputable def yCBy:Code:=(Tryz.f17.body).getD .skip
noncomputable def ytWy (g:Nat):Env A:=mkE [] [] [(4,⟨[0,1,12,13],[],[],[],[],[],[]⟩)] [(4,⟨[4],[],[],[],[],[],[]⟩)] [(4,yady ylPy (ye9y g g))] [] [] [] [] []
theorem yNFy [Fuel]:yahy (ytWy NN).C:=ct_of (P:=Tryz.prog) (T:=T) .nil (by kernel_rfl)
noncomputable def ysOy:Code:=sub [1,1,0,1,0,0] yCBy
theorem yGwy (g:Nat) (n:Nat):yaiy (ytWy g) g ysOy ylPy (ye9y g) n:=by intro ps; unfold ye9y; split; exact .inr fun R K=>(by kernel_rfl); exact .inl fun R K=>rfl
theorem yEsy [Fuel]:yaby (ytWy NN) NN ysOy:=yacy ylPy (ye9y NN) (by kernel_rfl) yNFy (cuts0 (fun _=>rfl) (by kernel_rfl)) (fun ps R K=>by unfold ye9y; split <;> (try unfold z66z_L4) <;> rfl) (yGwy NN)
theorem yPYy (g:Nat):Same (yoLy (@z66z_ g)) (abody (ytWy g) Tryz.f17 yCBy 0 [] [.asis] g):=by intro args; unfold yoLy; split; exact .inr fun R k=>(by kernel_rfl); exact .inl fun R k=>rfl
theorem yLxy [Fuel]:Ok 17 (yoLy (@z66z _)):=yaay std .nil ⟨rfl,rfl,by kernel_rfl,rfl,rfl,rfl⟩ (yPYy NN) (cutsL (fun _=>rfl) (.cons yEsy .nil) (by kernel_rfl)) Tryz.func17 (by kernel_rfl) (by kernel_rfl)
end Go.Am
