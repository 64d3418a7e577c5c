/- The functions of the program as Lean functions, each shown to be what the code computes, part 11. No condition: lemmas for the claim. -/
import Derived.Test.YtfmhkakoakcpgaaGreatDoorF0
import Derived.Test.YtfmhkakoakcpgaaGreatDoorFSh
import Derived.Test.YtfmhkakoakcpgaaGreatDoorF1
import Derived.Test.YtfmhkakoakcpgaaGreatDoorF4
import Derived.Test.YtfmhkakoakcpgaaGreatDoorF6
import Derived.Test.YtfmhkakoakcpgaaGreatDoorF7
import Derived.Test.YtfmhkakoakcpgaaGreatDoorF8
import Derived.Test.YtfmhkakoakcpgaaGreatDoorF9
import Derived.Test.YtfmhkakoakcpgaaGreatDoorF10
set_option linter.unusedVariables false
set_option maxRecDepth 100000
namespace Go.Am
open Go Go.Proofs
abbrev yijy:Type 1:={R:Type}→(Bool→Option R)→Option R
structure C_keep_ready where
 N:Nat
 log_Dupes:yd3y
 keep_errs:ygwy
 band_May:ykpy
 club_Table:yhPy
 net_Next:ykWy
def yody (g:C_keep_ready)  {R:Type} (k0:Bool→Option R):Option R :=
 (g.log_Dupes [(⟨0,1,[98],[107,49,97,98],0,0,[],[]⟩:G_Contact),(⟨5,1,[98],[107,49,97,98],0,0,[],[]⟩:G_Contact)] (fun r1 r2=>(g.band_May [(⟨[99],5,8,[1],(⟨0,9⟩:G_Window)⟩:G_Segment)] [99] 6 3 1 0 (fun r3 r4=>(g.club_Table [(⟨[107,49,97,98],[99],5,[]⟩:G_Entrant)] [99] (fun r5 r6=>(g.net_Next [(⟨[97],1,0,3,(⟨0,0,[],[],1,0,[],[]⟩:G_Contact),[],[],0⟩:G_Deed)] 0 (fun r7 r8=>(g.keep_errs [r2,r4,r6,r8] (fun r9=>(bif (r9 == 0) then (bif ((r1.length:Int) == 1) then (bif r3 then (bif ((r5.length:Int) == 1) then k0 (r7 == 2) else k0 false) else k0 false) else k0 false) else k0 false)))))))))))
noncomputable def ya8y [Fuel]:C_keep_ready:=⟨NN,@log_Dupes _,@keep_errs _,@band_May _,@club_Table _,@net_Next _⟩
noncomputable def keep_ready [Fuel]:yijy:=@yody ya8y
def yeiy (g:yijy):Spec A:=fun args=>match args with | []=>fun k=>g (fun z0=>k (.d (.bool z0)) []) | _=>fun _=>none
noncomputable def yGiy:Code:=(Tryz.f17.body).getD .skip
noncomputable def yuQy (g:C_keep_ready):Env A:=mkE [(12,ycKy g.log_Dupes),(13,ydEy g.keep_errs),(37,ygry g.band_May),(38,yeqy g.club_Table),(39,ygny g.net_Next)] [(1,[0]),(2,[1]),(17,[2]),(18,[3]),(22,[4]),(25,[5]),(31,[6]),(32,[7]),(38,[8]),(46,[9])] [] [] [] [] [] [] [] []
theorem ytty (g:C_keep_ready):Same (yeiy (@yody g)) (abody (yuQy g) Tryz.f17 yGiy 10 [] [.asis] g.N):=by intro args; unfold yeiy; split; exact .inr fun R k=>(by kernel_rfl); exact .inl fun R k=>rfl
theorem ylpy [Fuel]:Ok 17 (yeiy (@keep_ready _)):=yacy std (.cons yfCy (.cons yhMy (.cons yxMy (.cons ys8y (.cons yxJy .nil))))) ⟨rfl,rfl,by kernel_rfl,rfl,rfl,rfl⟩ (ytty ya8y) (cuts0 (fun _=>rfl) (by kernel_rfl)) Tryz.func17 (by kernel_rfl) (by kernel_rfl)
abbrev yeGy:Type 1:=List Int→{R:Type}→(Bool→Option R)→Option R
structure C_keep_NetsHaveOneLog where
 N:Nat
 z28z:yvzy
 z54z:ymJy
 net_Log:yl1y
 net_Desks:yiXy
 z32z:ywry
 net_Merge:yiNy
 net_Differ:yh3y
 net_Twice:yiKy
 log_Dupes:yd3y
 keep_errs:ygwy
 z36z:yp5y
 z45z:yvoy
 z80z:yvty
 keep_ready:yijy
def yaHy (g:C_keep_NetsHaveOneLog):Nat→Int→Int→Int→Int→List G_Deed→List G_Contact→List Int→List G_Desk→{R:Type}→(Int→Int→List G_Deed→List G_Contact→List Int→Option R)→Option R
 | 0,_,_,_,_,_,_,_,_,_,_=>none
 | n + 1,v27,v28,v29,v30,v31,v32,v33,v34,_,e0=>(bif (decide (v30 < v29)) then (inr v34 v30 (at_ v34 v30 fun x36=>yaHy g n v27 (w64 (v28 + x36.f_Contacts)) v29 (w64 (v30 + 1)) v31 v32 v33 v34 e0)) else e0 v27 v28 v31 v32 v33)
def yaBy (g:C_keep_NetsHaveOneLog):Nat→Int→Int→Int→Int→Int→List G_Deed→List G_Contact→List Int→List Int→{R:Type}→(Bool→Int→Int→Int→List G_Contact→List Int→Option R)→(Int→Int→Int→List G_Contact→List Int→Option R)→Option R
 | 0,_,_,_,_,_,_,_,_,_,_,_,_=>none
 | n + 1,v44,v45,v46,v47,v48,v49,v50,v51,v52,_,e0,e1=>(bif (decide (v48 < v47)) then (inr v52 v48 (at_ v52 v48 fun x55=>(bif (decide (x55 < 0)) then e0 false v44 v45 v46 v50 v51 else (bif (decide (x55 ≥ (v49.length:Int))) then e0 false v44 v45 v46 v50 v51 else (inr v49 x55 (at_ v49 x55 fun x56=>(bif (x56.f_Kind == 1) then yaBy g n v44 (w64 (v45 + 1)) v46 v47 (w64 (v48 + 1)) v49 v50 v51 v52 e0 e1 else yaBy g n v44 v45 v46 v47 (w64 (v48 + 1)) v49 v50 v51 v52 e0 e1))))))) else e1 v44 v45 v46 v50 v51)
def yb5y (g:C_keep_NetsHaveOneLog) (a1:List Int) {R:Type} (k0:Bool→Option R):Option R :=
 (g.z54z (⟨a1,0⟩:G_Stream) 0 16 (fun r2 r3=>(g.z28z r3 r2 (fun r4 r5=>(g.z54z r5 0 100 (fun r6 r7=>(g.net_Log r4 r6 (fun r8 r9 r10=>(g.net_Desks r4 r6 (fun r11 r12=>(g.z32z r7 r4 (fun r13 r14 r15=>(g.net_Merge r14 r13 (fun r16 r17=>(g.net_Differ r4 r16 r6 (fun r18 r19=>(g.net_Twice r4 r6 (fun r20 r21=>(g.log_Dupes r8 (fun r22 r23=>(g.keep_errs [r10,r12,r17,r19,r21,r23] (fun r24=>(bif (r24 != 0) then k0 false else (g.z36z r8 (fun r25=>(bif (r25 != 0) then k0 false else (bif ((r18.length:Int) != 0) then k0 false else (g.z45z r20 r22 (fun r26=>(bif (!r26) then k0 false else (yaHy g g.N r6 0 (r11.length:Int) 0 r4 r8 r9 r11 (fun e37 e38 e39 e40 e41=>(g.z80z e39 e37 (fun r42 r43=>(yaBy g g.N e38 0 r43 (r42.length:Int) 0 e39 e40 e41 r42 (fun e57 e58 e59 e60 e61 e62=>k0 e57) (fun e63 e64 e65 e66 e67=>(bif (e65 == 0) then (bif (e63 == (e66.length:Int)) then (bif (e64 == (w64 ((e66.length:Int) + (e67.length:Int)))) then (g.keep_ready (fun r68=>k0 r68)) else k0 false) else k0 false) else k0 false)))))))))))))))))))))))))))))))))))))
noncomputable def yafy [Fuel]:C_keep_NetsHaveOneLog:=⟨NN,@z28z _,@z54z _,@net_Log _,@net_Desks _,@z32z _,@net_Merge _,@net_Differ _,@net_Twice _,@log_Dupes _,@keep_errs _,@z36z _,@z45z _,@z80z _,@keep_ready _⟩
noncomputable def keep_NetsHaveOneLog [Fuel]:yeGy:=@yb5y yafy
def SS_keep_NetsHaveOneLog (g:yeGy):Spec A:=fun args=>match args with | [.d (.sl 3 a1)]=>fun k=>g a1 (fun z0=>k (.d (.bool z0)) [.undef]) | _=>fun _=>none
def yb0y:SSt:=mkSh 166 14 [(4,.own 41 1),(5,.int .i64),(6,.own 39 2),(7,.own 3 3),(21,.int .i64),(106,.own 53 4),(107,.int .i64),(108,.int .i64)] [(1,.frz 41),(2,.row 39),(3,.row 3),(4,.row 53)]
def ybay (g:C_keep_NetsHaveOneLog) (n:Nat):LPT A:=fun ps=>match ps with | [.d (.int .i64 p1),.d (.int .i64 p2),.d (.int .i64 p3),.d (.int .i64 p4),.d (.sl 41 p5),.d (.sl 39 p6),.d (.sl 3 p7),.d (.sl 53 p8)]=>fun K=>yaHy g n p1 p2 p3 p4 p5 p6 p7 p8 (fun z0 z1 z2 z3 z4=>K (.exit 0) (mkSt 166 14 [(4,.own 41 1),(5,.d (.int .i64 z0)),(6,.own 39 2),(7,.own 3 3),(21,.d (.int .i64 z1))] [(1,some (.frz 41 z2)),(2,some (.row 39 z3)),(3,some (.row 3 z4))])) | _=>fun _=>none
def yb2y:SSt:=mkSh 166 14 [(4,.own 41 1),(6,.own 39 2),(7,.own 3 3),(21,.int .i64),(24,.int .i64),(26,.int .i64),(123,.own 3 13),(124,.int .i64),(125,.int .i64)] [(1,.frz 41),(2,.row 39),(3,.row 3),(13,.row 3)]
def ya9y (g:C_keep_NetsHaveOneLog) (n:Nat):LPT A:=fun ps=>match ps with | [.d (.int .i64 p1),.d (.int .i64 p2),.d (.int .i64 p3),.d (.int .i64 p4),.d (.int .i64 p5),.d (.sl 41 p6),.d (.sl 39 p7),.d (.sl 3 p8),.d (.sl 3 p9)]=>fun K=>yaBy g n p1 p2 p3 p4 p5 p6 p7 p8 p9 (fun z0 z1 z2 z3 z4 z5=>K .ret (mkSt 166 14 [(2,.d (.bool z0)),(6,.own 39 2),(7,.own 3 3),(21,.d (.int .i64 z1)),(24,.d (.int .i64 z2)),(26,.d (.int .i64 z3))] [(2,some (.row 39 z4)),(3,some (.row 3 z5))])) (fun z0 z1 z2 z3 z4=>K (.exit 2) (mkSt 166 14 [(6,.own 39 2),(7,.own 3 3),(21,.d (.int .i64 z0)),(24,.d (.int .i64 z1)),(26,.d (.int .i64 z2))] [(2,some (.row 39 z3)),(3,some (.row 3 z4))])) | _=>fun _=>none
noncomputable def yuPy:Code:=(Tryz.f3.body).getD .skip
noncomputable def ybjy (g:C_keep_NetsHaveOneLog):Env A:=mkE [(4,ymXy g.z28z),(5,yhxy g.z54z),(6,yhmy g.net_Log),(7,yfUy g.net_Desks),(8,ynVy g.z32z),(9,yfyy g.net_Merge),(10,yehy g.net_Differ),(11,yfVy g.net_Twice),(12,ycKy g.log_Dupes),(13,ydEy g.keep_errs),(14,yjAy g.z36z),(15,ynhy g.z45z),(16,ym8y g.z80z),(17,yeiy g.keep_ready)] [(23,[12]),(31,[0]),(35,[1]),(41,[2,3]),(48,[4]),(54,[5,6]),(60,[7]),(67,[8]),(73,[9]),(78,[10]),(87,[11]),(120,[13])] [(14,⟨[4,5,6,7,21,106,107,108],[],[1,2,3,4],[],[],[],[]⟩),(21,⟨[4,6,7,21,24,26,123,124,125],[],[1,2,3,13],[],[],[],[]⟩)] [(14,⟨[4,5,6,7,21],[],[1,2,3],[],[],[],[]⟩),(21,⟨[2,6,7,21,24,26],[],[2,3],[],[],[],[]⟩)] [(14,yaiy yb0y (ybay g g.N)),(21,yaiy yb2y (ya9y g g.N))] [] [] [] [] []
theorem yedy [Fuel]:yamy (ybjy yafy).C:=ct_of (P:=Tryz.prog) (T:=T) (.cons yzqy (.cons yjHy (.cons yp3y (.cons ymiy (.cons yymy (.cons yl7y (.cons ylny (.cons ylYy (.cons yfCy (.cons yhMy (.cons yriy (.cons yxWy (.cons yzuy (.cons ylpy .nil)))))))))))))) (by kernel_rfl)
noncomputable def yc4y:Code:=sub [1,1,1,1,1,1,1,1,1,1,1,1,0,1,0,0] yuPy
theorem yhpy (g:C_keep_NetsHaveOneLog) (n:Nat):yaoy (ybjy g) g.N yc4y yb0y (ybay g) n:=by intro ps; unfold ybay; split; exact .inr fun R K=>(by kernel_rfl); exact .inl fun R K=>rfl
theorem ygZy [Fuel]:yahy (ybjy yafy) NN yc4y:=yaky yb0y (ybay yafy) (by kernel_rfl) yedy (cuts0 (fun _=>rfl) (by kernel_rfl)) (fun ps R K=>by unfold ybay; split <;> (try unfold yaHy) <;> rfl) (yhpy yafy)
noncomputable def yc3y:Code:=sub [1,1,1,1,1,1,1,1,1,1,1,1,1,1,1,0,1,0,0] yuPy
theorem yg7y (g:C_keep_NetsHaveOneLog) (n:Nat):yaoy (ybjy g) g.N yc3y yb2y (ya9y g) n:=by intro ps; unfold ya9y; split; exact .inr fun R K=>(by kernel_rfl); exact .inl fun R K=>rfl
theorem yg3y [Fuel]:yahy (ybjy yafy) NN yc3y:=yaky yb2y (ya9y yafy) (by kernel_rfl) yedy (cuts0 (fun _=>rfl) (by kernel_rfl)) (fun ps R K=>by unfold ya9y; split <;> (try unfold yaBy) <;> rfl) (yg7y yafy)
theorem yiRy (g:C_keep_NetsHaveOneLog):Same (SS_keep_NetsHaveOneLog (@yb5y g)) (abody (ybjy g) Tryz.f3 yuPy 14 [] [.asis] g.N):=by intro args; unfold SS_keep_NetsHaveOneLog; split; exact .inr fun R k=>(by kernel_rfl); exact .inl fun R k=>rfl
theorem ok_keep_NetsHaveOneLog [Fuel]:Ok 3 (SS_keep_NetsHaveOneLog (@keep_NetsHaveOneLog _)):=yacy std (.cons yzqy (.cons yjHy (.cons yp3y (.cons ymiy (.cons yymy (.cons yl7y (.cons ylny (.cons ylYy (.cons yfCy (.cons yhMy (.cons yriy (.cons yxWy (.cons yzuy (.cons ylpy .nil)))))))))))))) ⟨rfl,rfl,by kernel_rfl,rfl,rfl,rfl⟩ (yiRy yafy) (cutsL (fun _=>rfl) (.cons ygZy (.cons yg3y .nil)) (by kernel_rfl)) Tryz.func3 (by kernel_rfl) (by kernel_rfl)
end Go.Am
