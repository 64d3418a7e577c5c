/- The functions of the program as Lean functions, each shown to be what the code computes, part 15. No condition: lemmas for the claim. -/
import Derived.Test.YtfngnnmdgfkenaaGreatDoorF0
import Derived.Test.YtfngnnmdgfkenaaGreatDoorFSh
import Derived.Test.YtfngnnmdgfkenaaGreatDoorF2
import Derived.Test.YtfngnnmdgfkenaaGreatDoorF3
import Derived.Test.YtfngnnmdgfkenaaGreatDoorF5
import Derived.Test.YtfngnnmdgfkenaaGreatDoorF7
import Derived.Test.YtfngnnmdgfkenaaGreatDoorF8
import Derived.Test.YtfngnnmdgfkenaaGreatDoorF9
import Derived.Test.YtfngnnmdgfkenaaGreatDoorF11
import Derived.Test.YtfngnnmdgfkenaaGreatDoorF12
import Derived.Test.YtfngnnmdgfkenaaGreatDoorF13
import Derived.Test.YtfngnnmdgfkenaaGreatDoorF14
set_option linter.unusedVariables false
set_option maxRecDepth 100000
namespace Go.Am
open Go Go.Proofs
abbrev yyqy:Type 1:=List G_Deed→List G_Contact→List (List UInt8)→List Int→List (G_net_own×Bool)→{R:Type}→(Int→Int→List G_Deed→List G_Contact→List (List UInt8)→List Int→List (G_net_own×Bool)→Option R)→Option R
structure C_z32z where
 N:Nat
 z57z:yz4y
 z21z:yATy
def z32z_L3 (g:C_z32z):Nat→Int→List (Int×Int)→List (G_net_own×Bool)→List (Int×Int)→List G_Deed→List G_Contact→List (List UInt8)→List Int→{R:Type}→(Int→Int→List (G_net_own×Bool)→List G_Deed→List G_Contact→List (List UInt8)→List Int→Option R)→(List (G_net_own×Bool)→List G_Deed→List G_Contact→List (List UInt8)→List Int→Option R)→Option R
 | 0,_,_,_,_,_,_,_,_,_,_,_=>none
 | n + 1,v18,v19,v20,v21,v22,v23,v24,v25,_,e0,e1=>(bif (decide (v18≤99999)) then (bif (((yb5y v18 v19).getD 0) == 0) then (bif (((yb5y v18 v21).getD 0) == 0) then e0 v18 0 v20 v22 v23 v24 v25 else z32z_L3 g n (w64 (v18 + 1)) v19 v20 v21 v22 v23 v24 v25 e0 e1) else z32z_L3 g n (w64 (v18 + 1)) v19 v20 v21 v22 v23 v24 v25 e0 e1) else e1 v20 v22 v23 v24 v25)
def z32z_ (g:C_z32z) (a1:List G_Deed) (a2:List G_Contact) (a3:List (List UInt8)) (a4:List Int) (a5:List (G_net_own×Bool)) {R:Type} (k0:Int→Int→List G_Deed→List G_Contact→List (List UInt8)→List Int→List (G_net_own×Bool)→Option R):Option R :=
 (g.z57z a1 a2 a3 a4 a5 (fun r6 r7 r8 r9 r10 r11=>(g.z21z r7 r8 r9 r10 r11 (fun r12 r13 r14 r15 r16 r17=>(z32z_L3 g g.N 1 r6 r17 r12 r13 r14 r15 r16 (fun e26 e27 e28 e29 e30 e31 e32=>k0 e26 e27 e29 e30 e31 e32 e28) (fun e33 e34 e35 e36 e37=>k0 0 12 e34 e35 e36 e37 e33))))))
noncomputable def yegy [Fuel]:C_z32z:=⟨NN,@z57z _,@z21z _⟩
noncomputable def z32z [Fuel]:yyqy:=@z32z_ yegy
def yHFy (args:List (IV A)):Bool:=match args with | [.box [.arr 104 _,.arr 89 _,.arr 9 _,.arr 3 _,.mp 223 4 _]]=>true | _=>false
def yoDy (g:yyqy):Spec A:=fun args=>match args with | [.box [.arr 104 a1,.arr 89 a2,.arr 9 a3,.arr 3 a4,.mp 223 4 a5]]=>fun k=>g a1 a2 a3 a4 a5 (fun z0 z1 z2 z3 z4 z5 z6=>k (.tup [.d (.int .i64 z0),.d (.int .i64 z1)]) [.box [.arr 104 z2,.arr 89 z3,.arr 9 z4,.arr 3 z5,.mp 223 4 z6]]) | _=>fun _=>none
def ymKy:SSt:=mkSh 26 22 [(0,.ptr 0 0),(4,.mp 11),(5,.mp 17),(6,.int .i64)] [(0,.box [.own 104 18,.own 89 19,.own 9 20,.own 3 21,.mp 16]),(11,.mp 3 3),(16,.mp 223 4),(17,.mp 3 3),(18,.row 104),(19,.row 89),(20,.row 9),(21,.row 3)]
def yf9y (g:C_z32z) (n:Nat):LPT A:=fun ps=>match ps with | [.d (.int .i64 p1),.mp 3 3 p2,.mp 223 4 p3,.mp 3 3 p4,.d (.sl 104 p5),.d (.sl 89 p6),.d (.sl 9 p7),.d (.sl 3 p8)]=>fun K=>z32z_L3 g n p1 p2 p3 p4 p5 p6 p7 p8 (fun z0 z1 z2 z3 z4 z5 z6=>K .ret (mkSt 26 22 [(0,.ptr 0 0),(2,.d (.int .i64 z0)),(3,.d (.int .i64 z1))] [(0,some (.box [.own 104 18,.own 89 19,.own 9 20,.own 3 21,.mp 16])),(16,some (.mp 223 4 z2)),(18,some (.row 104 z3)),(19,some (.row 89 z4)),(20,some (.row 9 z5)),(21,some (.row 3 z6))])) (fun z0 z1 z2 z3 z4=>K (.exit 0) (mkSt 26 22 [(0,.ptr 0 0)] [(0,some (.box [.own 104 18,.own 89 19,.own 9 20,.own 3 21,.mp 16])),(16,some (.mp 223 4 z0)),(18,some (.row 104 z1)),(19,some (.row 89 z2)),(20,some (.row 9 z3)),(21,some (.row 3 z4))])) | _=>fun _=>none
noncomputable def ysey (g:C_z32z):Env A:=mkE [(137,yoEy g.z57z),(138,yd2y g.z21z)] [(8,[6,7,8,9,10,11]),(10,[12,13,14,15,16,17])] [(3,⟨[0,4,5,6],[],[0,11,16,17],[(0,0,104,18),(0,1,89,19),(0,2,9,20),(0,3,3,21)],[],[],[]⟩)] [(3,⟨[0,2,3],[],[0,16,18,19,20,21],[],[],[],[]⟩)] [(3,yady ymKy (yf9y g g.N))] [] [] [] [] [0]
theorem yOoy [Fuel]:yahy (ysey yegy).C:=ct_of (P:=Tryz.prog) (T:=T) (.cons yD1y (.cons yDQy .nil)) (by kernel_rfl)
noncomputable def ysdy:Code:=sub [1,1,0,1,0,0] yoJy
theorem yIuy (g:C_z32z) (n:Nat):yaiy (ysey g) g.N ysdy ymKy (yf9y g) n:=by intro ps; unfold yf9y; split; exact .inr fun R K=>(by kernel_rfl); exact .inl fun R K=>rfl
theorem yFpy [Fuel]:yaby (ysey yegy) NN ysdy:=yacy ymKy (yf9y yegy) (by kernel_rfl) yOoy (cuts0 (fun _=>rfl) (by kernel_rfl)) (fun ps R K=>by unfold yf9y; split <;> (try unfold z32z_L3) <;> rfl) (yIuy yegy)
theorem yOTy (g:C_z32z):Same (yoDy (@z32z_ g)) (abody (ysey g) Tryz.f93 yoJy 22 [0,1,2,3,4,5] [.asis,.asis] g.N):=by intro args; unfold yoDy; split; exact .inr fun R k=>(by kernel_rfl); exact .inl fun R k=>rfl
theorem yNCy [Fuel]:Ok 93 (yoDy (@z32z _)):=yaay std (.cons yD1y (.cons yDQy .nil)) ⟨rfl,rfl,by kernel_rfl,rfl,rfl,rfl⟩ (yOTy yegy) (cutsL (fun _=>rfl) (.cons yFpy .nil) (by kernel_rfl)) Tryz.func93 (by kernel_rfl) (by kernel_rfl)
abbrev yk5y:Type 1:=List G_Deed→Int→{R:Type}→(Int→Int→Option R)→Option R
structure C_net_Next where
 N:Nat
 z106z:yuhy
 z32z:yyqy
 z93z:yA7y
def yn6y (g:C_net_Next) (a1:List G_Deed) (a2:Int) {R:Type} (k0:Int→Int→Option R):Option R :=
 (g.z106z a1 a2 (fun r3=>(bif (r3 != 0) then k0 0 r3 else (g.z93z))) (fun r4 r5 r6 r7 r8 r9=>(bif (r9 != 0) then k0 0 r9 else (g.z32z r4 r5 r6 r7 r8 (fun r10 r11 r12 r13 r14 r15 r16=>k0 r10 r11)))))
noncomputable def yiby [Fuel]:C_net_Next:=⟨NN,@z106z _,@z32z _,@z93z _⟩
noncomputable def net_Next [Fuel]:yk5y:=@yn6y yiby
def yg2y (g:yk5y):Spec A:=fun args=>match args with | [.d (.sl 104 a1),.d (.int .i64 a2)]=>fun k=>g a1 a2 (fun z0 z1=>k (.tup [.d (.int .i64 z0),.d (.int .i64 z1)]) [.undef,.undef]) | _=>fun _=>none
noncomputable def yNSy:Code:=(Tryz.f48.body).getD .skip
noncomputable def yE0y (g:C_net_Next):Env A:=mkE [(92,yl8y g.z106z),(93,orS yHFy (yoDy g.z32z) (ypoy g.z93z))] [(11,[0,1,2,3,4,5]),(18,[6,7,8,9,10])] [] [] [] [] [] [] [] []
theorem yBxy (g:C_net_Next):Same (yg2y (@yn6y g)) (abody (yE0y g) Tryz.f48 yNSy 11 [] [.asis,.asis] g.N):=by intro args; unfold yg2y; split; exact .inr fun R k=>(by kernel_rfl); exact .inl fun R k=>rfl
theorem yBcy [Fuel]:Ok 48 (yg2y (@net_Next _)):=yaay std (.cons yJTy (.cons (ok_or yHFy yNCy yPky) .nil)) ⟨rfl,rfl,by kernel_rfl,rfl,rfl,rfl⟩ (yBxy yiby) (cuts0 (fun _=>rfl) (by kernel_rfl)) Tryz.func48 (by kernel_rfl) (by kernel_rfl)
abbrev yj0y:Type 1:=List Int→{R:Type}→(Int→Option R)→Option R
def ygey (g:Nat):Nat→List Int→Int→Int→{R:Type}→(Int→Option R)→Option R→Option R
 | 0,_,_,_,_,_,_=>none
 | n + 1,v2,v3,v4,_,e0,e1=>(bif (decide (v4 < v3)) then (get_ v2 v4 fun x6=>(bif (x6 != 0) then e0 x6 else ygey g n v2 v3 (w64 (v4 + 1)) e0 e1)) else e1)
def yrVy (g:Nat) (a1:List Int) {R:Type} (k0:Int→Option R):Option R :=
 (ygey g g a1 (a1.length:Int) 0 (fun e7=>k0 e7) (k0 0))
noncomputable def keep_errs [Fuel]:yj0y:=@yrVy NN
def yf1y (g:yj0y):Spec A:=fun args=>match args with | [.d (.sl 35 a1)]=>fun k=>g a1 (fun z0=>k (.d (.int .i64 z0)) [.undef]) | _=>fun _=>none
def yfEy:SSt:=mkSh 15 0 [(5,.sl 35),(6,.int .i64),(7,.int .i64)] []
def ychy (g:Nat) (n:Nat):LPT A:=fun ps=>match ps with | [.d (.sl 35 p1),.d (.int .i64 p2),.d (.int .i64 p3)]=>fun K=>ygey g n p1 p2 p3 (fun z0=>K .ret (mkSt 15 0 [(2,.d (.int .i64 z0))] [])) (K (.exit 0) (mkSt 15 0 [] [])) | _=>fun _=>none
noncomputable def yC6y:Code:=(Tryz.f49.body).getD .skip
noncomputable def yhby (g:Nat):Env A:=mkE [] [] [(2,⟨[5,6,7],[],[],[],[],[],[]⟩)] [(2,⟨[2],[],[],[],[],[],[]⟩)] [(2,yady yfEy (ychy g g))] [] [] [] [] []
theorem yzhy [Fuel]:yahy (yhby NN).C:=ct_of (P:=Tryz.prog) (T:=T) .nil (by kernel_rfl)
noncomputable def yjky:Code:=sub [1,0,1,0,0] yC6y
theorem yumy (g:Nat) (n:Nat):yaiy (yhby g) g yjky yfEy (ychy g) n:=by intro ps; unfold ychy; split; exact .inr fun R K=>(by kernel_rfl); exact .inl fun R K=>rfl
theorem yrRy [Fuel]:yaby (yhby NN) NN yjky:=yacy yfEy (ychy NN) (by kernel_rfl) yzhy (cuts0 (fun _=>rfl) (by kernel_rfl)) (fun ps R K=>by unfold ychy; split <;> (try unfold ygey) <;> rfl) (yumy NN)
theorem yzqy (g:Nat):Same (yf1y (@yrVy g)) (abody (yhby g) Tryz.f49 yC6y 0 [] [.asis] g):=by intro args; unfold yf1y; split; exact .inr fun R k=>(by kernel_rfl); exact .inl fun R k=>rfl
theorem yxUy [Fuel]:Ok 49 (yf1y (@keep_errs _)):=yaay std .nil ⟨rfl,rfl,by kernel_rfl,rfl,rfl,rfl⟩ (yzqy NN) (cutsL (fun _=>rfl) (.cons yrRy .nil) (by kernel_rfl)) Tryz.func49 (by kernel_rfl) (by kernel_rfl)
abbrev yiwy:Type 1:={R:Type}→(Bool→Option R)→Option R
structure C_keep_ready where
 N:Nat
 log_Dupes:yjVy
 band_May:ylay
 club_Table:yiJy
 net_Next:yk5y
 keep_errs:yj0y
def yp1y (g:C_keep_ready)  {R:Type} (k0:Bool→Option R):Option R :=
 (g.log_Dupes [(⟨0,1,[98],[107,49,97,98],0,0,[],[]⟩:G_Contact),(⟨5,1,[98],[107,49,97,98],0,0,[],[]⟩:G_Contact)] (fun r1 r2=>(g.band_May [(⟨[99],5,8,[1],(⟨0,9⟩:G_Window)⟩:G_Segment)] [99] 6 3 1 0 (fun r3 r4=>(g.club_Table [(⟨[107,49,97,98],[99],5,[]⟩:G_Entrant)] [99] (fun r5 r6=>(g.net_Next [(⟨[97],1,0,3,(⟨0,0,[],[],1,0,[],[]⟩:G_Contact),[],[],0⟩:G_Deed)] 0 (fun r7 r8=>(g.keep_errs [r2,r4,r6,r8] (fun r9=>(bif (r9 == 0) then (bif ((r1.length:Int) == 1) then (bif r3 then (bif ((r5.length:Int) == 1) then k0 (r7 == 2) else k0 false) else k0 false) else k0 false) else k0 false)))))))))))
noncomputable def ya0y [Fuel]:C_keep_ready:=⟨NN,@log_Dupes _,@band_May _,@club_Table _,@net_Next _,@keep_errs _⟩
noncomputable def keep_ready [Fuel]:yiwy:=@yp1y ya0y
def yety (g:yiwy):Spec A:=fun args=>match args with | []=>fun k=>g (fun z0=>k (.d (.bool z0)) []) | _=>fun _=>none
noncomputable def yPOy:Code:=(Tryz.f20.body).getD .skip
noncomputable def yA8y (g:C_keep_ready):Env A:=mkE [(45,ygoy g.log_Dupes),(46,yhiy g.band_May),(47,yeyy g.club_Table),(48,yg2y g.net_Next),(49,yf1y g.keep_errs)] [(1,[0]),(2,[1]),(17,[2]),(18,[3]),(22,[4]),(25,[5]),(31,[6]),(32,[7]),(38,[8]),(46,[9])] [] [] [] [] [] [] [] []
theorem ywNy (g:C_keep_ready):Same (yety (@yp1y g)) (abody (yA8y g) Tryz.f20 yPOy 10 [] [.asis] g.N):=by intro args; unfold yety; split; exact .inr fun R k=>(by kernel_rfl); exact .inl fun R k=>rfl
theorem ywLy [Fuel]:Ok 20 (yety (@keep_ready _)):=yaay std (.cons yycy (.cons yBAy (.cons ywWy (.cons yBcy (.cons yxUy .nil))))) ⟨rfl,rfl,by kernel_rfl,rfl,rfl,rfl⟩ (ywNy ya0y) (cuts0 (fun _=>rfl) (by kernel_rfl)) Tryz.func20 (by kernel_rfl) (by kernel_rfl)
abbrev yi3y:Type 1:=List Int→{R:Type}→(Bool→Option R)→Option R
structure C_keep_BandsStay where
 N:Nat
 z2z:T_z2z
 z9z:T_z9z
 z43z:yAyy
 z46z:yxby
 band_Free:yjBy
 z80z:yxzy
 z68z:yyfy
 z78z:yyLy
 band_Heard:yi8y
 band_Sweep:yiXy
 z12z:yydy
 z66z:yzzy
 z67z:yy1y
 z65z:yxLy
 keep_ready:yiwy
def yf5y (g:C_keep_BandsStay) (a1:List Int) {R:Type} (k0:Bool→Option R):Option R :=
 (g.z2z (⟨a1,0⟩:G_Stream) (fun r2 r3=>(g.z9z r3 (fun r4 r5=>(g.z43z r5 8 (fun r6 r7=>(g.z46z r7 (fun r8 r9=>(g.z2z (⟨a1,0⟩:G_Stream) (fun r10 r11=>(g.z9z r11 (fun r12 r13=>(g.z43z r13 8 (fun r14 r15=>(g.z46z r15 (fun r16 r17=>(g.band_Free r2 r4 [102,117,108,108] 1 5 20 (fun r18 r19=>(g.z80z r18 (fun r20=>(g.z68z r6 (fun r21 r22=>(g.z78z r21 (fun r23=>(g.band_Heard r8 r6 100 50 (fun r24 r25=>(g.z78z r24 (fun r26=>(g.band_Sweep r8 r6 100 50 7000000 (fun r27 r28 r29=>(g.z12z r2 r10 (fun r30=>(bif r30 then (g.z66z r4 r12 (fun r31=>(bif r31 then (g.z67z r6 r14 (fun r32=>(bif r32 then (g.z65z r8 r16 (fun r33=>(bif r33 then (g.keep_ready (fun r34=>k0 r34)) else k0 false))) else k0 false))) else k0 false))) else k0 false)))))))))))))))))))))))))))))))))
noncomputable def yeIy [Fuel]:C_keep_BandsStay:=⟨NN,@z2z _,@z9z _,@z43z _,@z46z _,@band_Free _,@z80z _,@z68z _,@z78z _,@band_Heard _,@band_Sweep _,@z12z _,@z66z _,@z67z _,@z65z _,@keep_ready _⟩
noncomputable def keep_BandsStay [Fuel]:yi3y:=@yf5y yeIy
def SS_keep_BandsStay (g:yi3y):Spec A:=fun args=>match args with | [.d (.sl 3 a1)]=>fun k=>g a1 (fun z0=>k (.d (.bool z0)) [.undef]) | _=>fun _=>none
noncomputable def yREy:Code:=(Tryz.f3.body).getD .skip
noncomputable def yqNy (g:C_keep_BandsStay):Env A:=mkE [(4,ysNy g.z2z),(5,ysDy g.z9z),(6,yoAy g.z43z),(7,yo2y g.z46z),(8,ygly g.band_Free),(9,yoZy g.z80z),(10,yoyy g.z68z),(11,yo7y g.z78z),(12,yeBy g.band_Heard),(13,yevy g.band_Sweep),(16,yoHy g.z12z),(17,yoLy g.z66z),(18,ypKy g.z67z),(19,yo6y g.z65z),(20,yety g.keep_ready)] [(22,[0]),(25,[1]),(27,[2]),(29,[3]),(31,[4]),(33,[5]),(35,[6]),(37,[7]),(39,[8]),(41,[9]),(45,[10]),(52,[11]),(60,[12]),(68,[13])] [] [] [] [] [] [] [(9,0),(11,0)] []
theorem ypWy (g:C_keep_BandsStay):Same (SS_keep_BandsStay (@yf5y g)) (abody (yqNy g) Tryz.f3 yREy 14 [] [.asis] g.N):=by intro args; unfold SS_keep_BandsStay; split; exact .inr fun R k=>(by kernel_rfl); exact .inl fun R k=>rfl
theorem ok_keep_BandsStay [Fuel]:Ok 3 (SS_keep_BandsStay (@keep_BandsStay _)):=yaay std (.cons yQPy (.cons yRNy (.cons yOIy (.cons yOJy (.cons yxDy (.cons yQsy (.cons yNzy (.cons yQmy (.cons ywKy (.cons ywAy (.cons yPKy (.cons yLxy (.cons yOzy (.cons yLwy (.cons ywLy .nil))))))))))))))) ⟨rfl,rfl,by kernel_rfl,rfl,rfl,rfl⟩ (ypWy yeIy) (cuts0 (fun _=>rfl) (by kernel_rfl)) Tryz.func3 (by kernel_rfl) (by kernel_rfl)
end Go.Am
