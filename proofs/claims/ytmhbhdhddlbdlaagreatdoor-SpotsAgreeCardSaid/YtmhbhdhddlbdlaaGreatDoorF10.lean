/- The functions of the program as Lean functions, each shown to be what the code computes, part 10. No condition: lemmas for the claim. -/
import Derived.Test.YtmhbhdhddlbdlaaGreatDoorF0
import Derived.Test.YtmhbhdhddlbdlaaGreatDoorFSh
import Derived.Test.YtmhbhdhddlbdlaaGreatDoorF1
import Derived.Test.YtmhbhdhddlbdlaaGreatDoorF3
import Derived.Test.YtmhbhdhddlbdlaaGreatDoorF4
import Derived.Test.YtmhbhdhddlbdlaaGreatDoorF5
import Derived.Test.YtmhbhdhddlbdlaaGreatDoorF6
import Derived.Test.YtmhbhdhddlbdlaaGreatDoorF7
import Derived.Test.YtmhbhdhddlbdlaaGreatDoorF8
import Derived.Test.YtmhbhdhddlbdlaaGreatDoorF9
set_option linter.unusedVariables false
set_option maxRecDepth 100000
namespace Go.Am
open Go Go.Proofs
abbrev yt4y:Type 1:=List G_Deed→List G_Contact→List (List UInt8)→List Int→List (G_net_own×Bool)→{R:Type}→(Int→Int→List G_Deed→List G_Contact→List (List UInt8)→List Int→List (G_net_own×Bool)→Option R)→Option R
structure C_z12z where
 N:Nat
 z34z:yvAy
 z6z:T_z6z
def z12z_L3 (g:C_z12z):Nat→Int→List (Int×Int)→List (G_net_own×Bool)→List (Int×Int)→List G_Deed→List G_Contact→List (List UInt8)→List Int→{R:Type}→(Int→Int→List (G_net_own×Bool)→List G_Deed→List G_Contact→List (List UInt8)→List Int→Option R)→(List (G_net_own×Bool)→List G_Deed→List G_Contact→List (List UInt8)→List Int→Option R)→Option R
 | 0,_,_,_,_,_,_,_,_,_,_,_=>none
 | n + 1,v18,v19,v20,v21,v22,v23,v24,v25,_,e0,e1=>(bif (decide (v18≤99999)) then (bif (((yb6y v18 v19).getD 0) == 0) then (bif (((yb6y v18 v21).getD 0) == 0) then e0 v18 0 v20 v22 v23 v24 v25 else z12z_L3 g n (w64 (v18 + 1)) v19 v20 v21 v22 v23 v24 v25 e0 e1) else z12z_L3 g n (w64 (v18 + 1)) v19 v20 v21 v22 v23 v24 v25 e0 e1) else e1 v20 v22 v23 v24 v25)
def z12z_ (g:C_z12z) (a1:List G_Deed) (a2:List G_Contact) (a3:List (List UInt8)) (a4:List Int) (a5:List (G_net_own×Bool)) {R:Type} (k0:Int→Int→List G_Deed→List G_Contact→List (List UInt8)→List Int→List (G_net_own×Bool)→Option R):Option R :=
 (g.z34z a1 a2 a3 a4 a5 (fun r6 r7 r8 r9 r10 r11=>(g.z6z r7 r8 r9 r10 r11 (fun r12 r13 r14 r15 r16 r17=>(z12z_L3 g g.N 1 r6 r17 r12 r13 r14 r15 r16 (fun e26 e27 e28 e29 e30 e31 e32=>k0 e26 e27 e29 e30 e31 e32 e28) (fun e33 e34 e35 e36 e37=>k0 0 12 e34 e35 e36 e37 e33))))))
noncomputable def ydWy [Fuel]:C_z12z:=⟨NN,@z34z _,@z6z _⟩
noncomputable def z12z [Fuel]:yt4y:=@z12z_ ydWy
def yC1y (args:List (IV A)):Bool:=match args with | [.box [.arr 51 _,.arr 49 _,.arr 9 _,.arr 3 _,.mp 107 4 _]]=>true | _=>false
def yncy (g:yt4y):Spec A:=fun args=>match args with | [.box [.arr 51 a1,.arr 49 a2,.arr 9 a3,.arr 3 a4,.mp 107 4 a5]]=>fun k=>g a1 a2 a3 a4 a5 (fun z0 z1 z2 z3 z4 z5 z6=>k (.tup [.d (.int .i64 z0),.d (.int .i64 z1)]) [.box [.arr 51 z2,.arr 49 z3,.arr 9 z4,.arr 3 z5,.mp 107 4 z6]]) | _=>fun _=>none
def ykMy:SSt:=mkSh 26 22 [(0,.ptr 0 0),(4,.mp 11),(5,.mp 17),(6,.int .i64)] [(0,.box [.own 51 18,.own 49 19,.own 9 20,.own 3 21,.mp 16]),(11,.mp 3 3),(16,.mp 107 4),(17,.mp 3 3),(18,.row 51),(19,.row 49),(20,.row 9),(21,.row 3)]
def yfry (g:C_z12z) (n:Nat):LPT A:=fun ps=>match ps with | [.d (.int .i64 p1),.mp 3 3 p2,.mp 107 4 p3,.mp 3 3 p4,.d (.sl 51 p5),.d (.sl 49 p6),.d (.sl 9 p7),.d (.sl 3 p8)]=>fun K=>z12z_L3 g n p1 p2 p3 p4 p5 p6 p7 p8 (fun z0 z1 z2 z3 z4 z5 z6=>K .ret (mkSt 26 22 [(0,.ptr 0 0),(2,.d (.int .i64 z0)),(3,.d (.int .i64 z1))] [(0,some (.box [.own 51 18,.own 49 19,.own 9 20,.own 3 21,.mp 16])),(16,some (.mp 107 4 z2)),(18,some (.row 51 z3)),(19,some (.row 49 z4)),(20,some (.row 9 z5)),(21,some (.row 3 z6))])) (fun z0 z1 z2 z3 z4=>K (.exit 0) (mkSt 26 22 [(0,.ptr 0 0)] [(0,some (.box [.own 51 18,.own 49 19,.own 9 20,.own 3 21,.mp 16])),(16,some (.mp 107 4 z0)),(18,some (.row 51 z1)),(19,some (.row 49 z2)),(20,some (.row 9 z3)),(21,some (.row 3 z4))])) | _=>fun _=>none
noncomputable def yqTy (g:C_z12z):Env A:=mkE [(146,ym8y g.z34z),(147,yfLy g.z6z)] [(8,[6,7,8,9,10,11]),(10,[12,13,14,15,16,17])] [(3,⟨[0,4,5,6],[],[0,11,16,17],[(0,0,51,18),(0,1,49,19),(0,2,9,20),(0,3,3,21)],[],[],[]⟩)] [(3,⟨[0,2,3],[],[0,16,18,19,20,21],[],[],[],[]⟩)] [(3,yafy ykMy (yfry g g.N))] [] [] [] [] [0]
theorem yGWy [Fuel]:yagy (yqTy ydWy).C:=ct_of (P:=Tryz.prog) (T:=T) (.cons yz1y (.cons yDmy .nil)) (by kernel_rfl)
noncomputable def yqly:Code:=sub [1,1,0,1,0,0] ynDy
theorem yD0y (g:C_z12z) (n:Nat):yaly (yqTy g) g.N yqly ykMy (yfry g) n:=by intro ps; unfold yfry; split; exact .inr fun R K=>(by kernel_rfl); exact .inl fun R K=>rfl
theorem yAFy [Fuel]:yaey (yqTy ydWy) NN yqly:=yahy ykMy (yfry ydWy) (by kernel_rfl) yGWy (cuts0 (fun _=>rfl) (by kernel_rfl)) (fun ps R K=>by unfold yfry; split <;> (try unfold z12z_L3) <;> rfl) (yD0y ydWy)
theorem yIvy (g:C_z12z):Same (yncy (@z12z_ g)) (abody (yqTy g) Tryz.f89 ynDy 22 [0,1,2,3,4,5] [.asis,.asis] g.N):=by intro args; unfold yncy; split; exact .inr fun R k=>(by kernel_rfl); exact .inl fun R k=>rfl
theorem yHNy [Fuel]:Ok 89 (yncy (@z12z _)):=yaay std (.cons yz1y (.cons yDmy .nil)) ⟨rfl,rfl,by kernel_rfl,rfl,rfl,rfl⟩ (yIvy ydWy) (cutsL (fun _=>rfl) (.cons yAFy .nil) (by kernel_rfl)) Tryz.func89 (by kernel_rfl) (by kernel_rfl)
abbrev ykLy:Type 1:=List G_Deed→Int→{R:Type}→(Int→Int→Option R)→Option R
structure C_net_Next where
 N:Nat
 z76z:ywjy
 z12z:yt4y
 z60z:yuey
def yl8y (g:C_net_Next) (a1:List G_Deed) (a2:Int) {R:Type} (k0:Int→Int→Option R):Option R :=
 (g.z76z a1 a2 (fun r3=>(bif (r3 != 0) then k0 0 r3 else (g.z60z))) (fun r4 r5 r6 r7 r8 r9=>(bif (r9 != 0) then k0 0 r9 else (g.z12z r4 r5 r6 r7 r8 (fun r10 r11 r12 r13 r14 r15 r16=>k0 r10 r11)))))
noncomputable def yhry [Fuel]:C_net_Next:=⟨NN,@z76z _,@z12z _,@z60z _⟩
noncomputable def net_Next [Fuel]:ykLy:=@yl8y yhry
def yghy (g:ykLy):Spec A:=fun args=>match args with | [.d (.sl 51 a1),.d (.int .i64 a2)]=>fun k=>g a1 a2 (fun z0 z1=>k (.tup [.d (.int .i64 z0),.d (.int .i64 z1)]) [.undef,.undef]) | _=>fun _=>none
noncomputable def yHjy:Code:=(Tryz.f40.body).getD .skip
noncomputable def yAQy (g:C_net_Next):Env A:=mkE [(88,ynTy g.z76z),(89,orS yC1y (yncy g.z12z) (ynfy g.z60z))] [(11,[0,1,2,3,4,5]),(18,[6,7,8,9,10])] [] [] [] [] [] [] [] []
theorem yxGy (g:C_net_Next):Same (yghy (@yl8y g)) (abody (yAQy g) Tryz.f40 yHjy 11 [] [.asis,.asis] g.N):=by intro args; unfold yghy; split; exact .inr fun R k=>(by kernel_rfl); exact .inl fun R k=>rfl
theorem yxCy [Fuel]:Ok 40 (yghy (@net_Next _)):=yaay std (.cons yJZy (.cons (ok_or yC1y yHNy yHEy) .nil)) ⟨rfl,rfl,by kernel_rfl,rfl,rfl,rfl⟩ (yxGy yhry) (cuts0 (fun _=>rfl) (by kernel_rfl)) Tryz.func40 (by kernel_rfl) (by kernel_rfl)
abbrev yiby:Type 1:={R:Type}→(Bool→Option R)→Option R
structure C_keep_ready where
 N:Nat
 keep_errs:ygty
 log_Dupes:yi5y
 band_May:ykKy
 club_Table:yhPy
 net_Next:ykLy
def yoby (g:C_keep_ready)  {R:Type} (k0:Bool→Option R):Option R :=
 (g.log_Dupes [(⟨0,1,[98],[107,49,97,98],0,0,[],[]⟩:G_Contact),(⟨5,1,[98],[107,49,97,98],0,0,[],[]⟩:G_Contact)] (fun r1 r2=>(g.band_May [(⟨[99],5,8,[1],(⟨0,9⟩:G_Window)⟩:G_Segment)] [99] 6 3 1 0 (fun r3 r4=>(g.club_Table [(⟨[107,49,97,98],[99],5,[]⟩:G_Entrant)] [99] (fun r5 r6=>(g.net_Next [(⟨[97],1,0,3,(⟨0,0,[],[],1,0,[],[]⟩:G_Contact),[],[],0⟩:G_Deed)] 0 (fun r7 r8=>(g.keep_errs [r2,r4,r6,r8] (fun r9=>(bif (r9 == 0) then (bif ((r1.length:Int) == 1) then (bif r3 then (bif ((r5.length:Int) == 1) then k0 (r7 == 2) else k0 false) else k0 false) else k0 false) else k0 false)))))))))))
noncomputable def yaTy [Fuel]:C_keep_ready:=⟨NN,@keep_errs _,@log_Dupes _,@band_May _,@club_Table _,@net_Next _⟩
noncomputable def keep_ready [Fuel]:yiby:=@yoby yaTy
def yd3y (g:yiby):Spec A:=fun args=>match args with | []=>fun k=>g (fun z0=>k (.d (.bool z0)) []) | _=>fun _=>none
noncomputable def yHXy:Code:=(Tryz.f13.body).getD .skip
noncomputable def yv3y (g:C_keep_ready):Env A:=mkE [(11,ydvy g.keep_errs),(37,yfky g.log_Dupes),(38,ygiy g.band_May),(39,yd5y g.club_Table),(40,yghy g.net_Next)] [(1,[0]),(2,[1]),(17,[2]),(18,[3]),(22,[4]),(25,[5]),(31,[6]),(32,[7]),(38,[8]),(46,[9])] [] [] [] [] [] [] [] []
theorem ytBy (g:C_keep_ready):Same (yd3y (@yoby g)) (abody (yv3y g) Tryz.f13 yHXy 10 [] [.asis] g.N):=by intro args; unfold yd3y; split; exact .inr fun R k=>(by kernel_rfl); exact .inl fun R k=>rfl
theorem ytny [Fuel]:Ok 13 (yd3y (@keep_ready _)):=yaay std (.cons ylXy (.cons yu2y (.cons yx1y (.cons ytmy (.cons yxCy .nil))))) ⟨rfl,rfl,by kernel_rfl,rfl,rfl,rfl⟩ (ytBy yaTy) (cuts0 (fun _=>rfl) (by kernel_rfl)) Tryz.func13 (by kernel_rfl) (by kernel_rfl)
abbrev yg9y:Type 1:=List Int→{R:Type}→(Bool→Option R)→Option R
structure C_keep_SpotsAgree where
 N:Nat
 z26z:yupy
 z69z:yqPy
 z31z:ywqy
 band_Merge:yidy
 band_Text:yiZy
 band_Read:yi0y
 keep_errs:ygty
 z38z:ywIy
 keep_ready:yiby
def ycOy (g:C_keep_SpotsAgree) (a1:List Int) {R:Type} (k0:Bool→Option R):Option R :=
 (g.z69z (⟨a1,0⟩:G_Stream) 0 12 (fun r2 r3=>(g.z26z r3 r2 (fun r4 r5=>(g.z31z r5 r4 (fun r6 r7 r8=>(g.band_Merge r6 r7 (fun r9 r10=>(g.band_Merge r7 r6 (fun r11 r12=>(g.band_Text r4 (fun r13 r14=>(g.band_Read r13 (fun r15 r16 r17=>(g.keep_errs [r10,r12,r14,r17] (fun r18=>(bif (r18 == 0) then (g.z38z r9 r4 (fun r19=>(bif r19 then (g.z38z r11 r4 (fun r20=>(bif r20 then (g.z38z r15 r4 (fun r21=>(bif r21 then (g.keep_ready (fun r22=>k0 r22)) else k0 false))) else k0 false))) else k0 false))) else k0 false)))))))))))))))))
noncomputable def yawy [Fuel]:C_keep_SpotsAgree:=⟨NN,@z26z _,@z69z _,@z31z _,@band_Merge _,@band_Text _,@band_Read _,@keep_errs _,@z38z _,@keep_ready _⟩
noncomputable def keep_SpotsAgree [Fuel]:yg9y:=@ycOy yawy
def SS_keep_SpotsAgree (g:yg9y):Spec A:=fun args=>match args with | [.d (.sl 3 a1)]=>fun k=>g a1 (fun z0=>k (.d (.bool z0)) [.undef]) | _=>fun _=>none
noncomputable def yLGy:Code:=(Tryz.f3.body).getD .skip
noncomputable def ynYy (g:C_keep_SpotsAgree):Env A:=mkE [(5,ymTy g.z26z),(6,yjAy g.z69z),(7,ynky g.z31z),(8,yd9y g.band_Merge),(9,yeVy g.band_Text),(10,yeRy g.band_Read),(11,ydvy g.keep_errs),(12,ynWy g.z38z),(13,yd3y g.keep_ready)] [(18,[0]),(22,[1]),(26,[2,3]),(32,[4]),(38,[5]),(48,[6]),(56,[7])] [] [] [] [] [] [] [] []
theorem ymLy (g:C_keep_SpotsAgree):Same (SS_keep_SpotsAgree (@ycOy g)) (abody (ynYy g) Tryz.f3 yLGy 8 [] [.asis] g.N):=by intro args; unfold SS_keep_SpotsAgree; split; exact .inr fun R k=>(by kernel_rfl); exact .inl fun R k=>rfl
theorem ok_keep_SpotsAgree [Fuel]:Ok 3 (SS_keep_SpotsAgree (@keep_SpotsAgree _)):=yaay std (.cons yF8y (.cons yzfy (.cons yIoy (.cons ytky (.cons yuDy (.cons ywJy (.cons ylXy (.cons yJKy (.cons ytny .nil))))))))) ⟨rfl,rfl,by kernel_rfl,rfl,rfl,rfl⟩ (ymLy yawy) (cuts0 (fun _=>rfl) (by kernel_rfl)) Tryz.func3 (by kernel_rfl) (by kernel_rfl)
end Go.Am
