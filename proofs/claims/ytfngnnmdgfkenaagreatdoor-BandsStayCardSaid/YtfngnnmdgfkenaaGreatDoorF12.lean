/- The functions of the program as Lean functions, each shown to be what the code computes, part 12. No condition: lemmas for the claim. -/
import Derived.Test.YtfngnnmdgfkenaaGreatDoorF0
import Derived.Test.YtfngnnmdgfkenaaGreatDoorFSh
import Derived.Test.YtfngnnmdgfkenaaGreatDoorF1
import Derived.Test.YtfngnnmdgfkenaaGreatDoorF5
import Derived.Test.YtfngnnmdgfkenaaGreatDoorF6
import Derived.Test.YtfngnnmdgfkenaaGreatDoorF7
set_option linter.unusedVariables false
set_option maxRecDepth 100000
namespace Go.Am
open Go Go.Proofs
abbrev yy1y:Type 1:=List G_Spot→List G_Spot→{R:Type}→(Bool→Option R)→Option R
def z67z_L4 (g:Nat):Nat→List G_Spot→List G_Spot→Int→Int→{R:Type}→(Bool→Option R)→Option R→Option R
 | 0,_,_,_,_,_,_,_=>none
 | n + 1,v3,v4,v5,v6,_,e0,e1=>(bif (decide (v6 < v5)) then (get_ v3 v6 fun x9=>(get_ v4 v6 fun x10=>(bif (!(ybdy x9 x10)) then e0 false else z67z_L4 g n v3 v4 v5 (w64 (v6 + 1)) e0 e1))) else e1)
def z67z_ (g:Nat) (a1 a2:List G_Spot) {R:Type} (k0:Bool→Option R):Option R :=
 (bif ((a1.length:Int) != (a2.length:Int)) then k0 false else (z67z_L4 g g a1 a2 (a1.length:Int) 0 (fun e11=>k0 e11) (k0 true)))
noncomputable def z67z [Fuel]:yy1y:=@z67z_ NN
def ypKy (g:yy1y):Spec A:=fun args=>match args with | [.d (.sl 45 a1),.d (.sl 45 a2)]=>fun k=>g a1 a2 (fun z0=>k (.d (.bool z0)) [.undef,.undef]) | _=>fun _=>none
def ymby:SSt:=mkSh 26 0 [(0,.sl 45),(1,.sl 45),(12,.int .i64),(13,.int .i64)] []
def ygzy (g:Nat) (n:Nat):LPT A:=fun ps=>match ps with | [.d (.sl 45 p1),.d (.sl 45 p2),.d (.int .i64 p3),.d (.int .i64 p4)]=>fun K=>z67z_L4 g n p1 p2 p3 p4 (fun z0=>K .ret (mkSt 26 0 [(4,.d (.bool z0))] [])) (K (.exit 0) (mkSt 26 0 [] [])) | _=>fun _=>none
noncomputable def yCIy:Code:=(Tryz.f18.body).getD .skip
noncomputable def yt2y (g:Nat):Env A:=mkE [] [] [(4,⟨[0,1,12,13],[],[],[],[],[],[]⟩)] [(4,⟨[4],[],[],[],[],[],[]⟩)] [(4,yady ymby (ygzy g g))] [] [] [] [] []
theorem yPby [Fuel]:yahy (yt2y NN).C:=ct_of (P:=Tryz.prog) (T:=T) .nil (by kernel_rfl)
noncomputable def ysfy:Code:=sub [1,1,0,1,0,0] yCIy
theorem yH4y (g:Nat) (n:Nat):yaiy (yt2y g) g ysfy ymby (ygzy g) n:=by intro ps; unfold ygzy; split; exact .inr fun R K=>(by kernel_rfl); exact .inl fun R K=>rfl
theorem yFAy [Fuel]:yaby (yt2y NN) NN ysfy:=yacy ymby (ygzy NN) (by kernel_rfl) yPby (cuts0 (fun _=>rfl) (by kernel_rfl)) (fun ps R K=>by unfold ygzy; split <;> (try unfold z67z_L4) <;> rfl) (yH4y NN)
theorem yMVy (g:Nat):Same (ypKy (@z67z_ g)) (abody (yt2y g) Tryz.f18 yCIy 0 [] [.asis] g):=by intro args; unfold ypKy; split; exact .inr fun R k=>(by kernel_rfl); exact .inl fun R k=>rfl
theorem yOzy [Fuel]:Ok 18 (ypKy (@z67z _)):=yaay std .nil ⟨rfl,rfl,by kernel_rfl,rfl,rfl,rfl⟩ (yMVy NN) (cutsL (fun _=>rfl) (.cons yFAy .nil) (by kernel_rfl)) Tryz.func18 (by kernel_rfl) (by kernel_rfl)
abbrev yxLy:Type 1:=List G_Band→List G_Band→{R:Type}→(Bool→Option R)→Option R
def z65z_L4 (g:Nat):Nat→List G_Band→List G_Band→Int→Int→{R:Type}→(Bool→Option R)→Option R→Option R
 | 0,_,_,_,_,_,_,_=>none
 | n + 1,v3,v4,v5,v6,_,e0,e1=>(bif (decide (v6 < v5)) then (get_ v3 v6 fun x9=>(get_ v4 v6 fun x10=>(bif (!(yhPy x9 x10)) then e0 false else z65z_L4 g n v3 v4 v5 (w64 (v6 + 1)) e0 e1))) else e1)
def z65z_ (g:Nat) (a1 a2:List G_Band) {R:Type} (k0:Bool→Option R):Option R :=
 (bif ((a1.length:Int) != (a2.length:Int)) then k0 false else (z65z_L4 g g a1 a2 (a1.length:Int) 0 (fun e11=>k0 e11) (k0 true)))
noncomputable def z65z [Fuel]:yxLy:=@z65z_ NN
def yo6y (g:yxLy):Spec A:=fun args=>match args with | [.d (.sl 62 a1),.d (.sl 62 a2)]=>fun k=>g a1 a2 (fun z0=>k (.d (.bool z0)) [.undef,.undef]) | _=>fun _=>none
def ymuy:SSt:=mkSh 26 0 [(0,.sl 62),(1,.sl 62),(12,.int .i64),(13,.int .i64)] []
def yfZy (g:Nat) (n:Nat):LPT A:=fun ps=>match ps with | [.d (.sl 62 p1),.d (.sl 62 p2),.d (.int .i64 p3),.d (.int .i64 p4)]=>fun K=>z65z_L4 g n p1 p2 p3 p4 (fun z0=>K .ret (mkSt 26 0 [(4,.d (.bool z0))] [])) (K (.exit 0) (mkSt 26 0 [] [])) | _=>fun _=>none
noncomputable def yDfy:Code:=(Tryz.f19.body).getD .skip
noncomputable def ytJy (g:Nat):Env A:=mkE [] [] [(4,⟨[0,1,12,13],[],[],[],[],[],[]⟩)] [(4,⟨[4],[],[],[],[],[],[]⟩)] [(4,yady ymuy (yfZy g g))] [] [] [] [] []
theorem yOly [Fuel]:yahy (ytJy NN).C:=ct_of (P:=Tryz.prog) (T:=T) .nil (by kernel_rfl)
noncomputable def yspy:Code:=sub [1,1,0,1,0,0] yDfy
theorem yGZy (g:Nat) (n:Nat):yaiy (ytJy g) g yspy ymuy (yfZy g) n:=by intro ps; unfold yfZy; split; exact .inr fun R K=>(by kernel_rfl); exact .inl fun R K=>rfl
theorem yFay [Fuel]:yaby (ytJy NN) NN yspy:=yacy ymuy (yfZy NN) (by kernel_rfl) yOly (cuts0 (fun _=>rfl) (by kernel_rfl)) (fun ps R K=>by unfold yfZy; split <;> (try unfold z65z_L4) <;> rfl) (yGZy NN)
theorem yMSy (g:Nat):Same (yo6y (@z65z_ g)) (abody (ytJy g) Tryz.f19 yDfy 0 [] [.asis] g):=by intro args; unfold yo6y; split; exact .inr fun R k=>(by kernel_rfl); exact .inl fun R k=>rfl
theorem yLwy [Fuel]:Ok 19 (yo6y (@z65z _)):=yaay std .nil ⟨rfl,rfl,by kernel_rfl,rfl,rfl,rfl⟩ (yMSy NN) (cutsL (fun _=>rfl) (.cons yFay .nil) (by kernel_rfl)) Tryz.func19 (by kernel_rfl) (by kernel_rfl)
abbrev yiHy:Type 1:=List UInt8→{R:Type}→(Bool→Option R)→Option R
structure C_kit_IsName where
 N:Nat
 kit_IsKey:ybhy
def yp5y (g:C_kit_IsName) (a1:List UInt8) {R:Type} (k0:Bool→Option R):Option R :=
 (bif (a1 == []) then k0 true else (g.kit_IsKey a1 (fun r2=>k0 r2)))
noncomputable def yoey [Fuel]:C_kit_IsName:=⟨NN,@kit_IsKey _⟩
noncomputable def kit_IsName [Fuel]:yiHy:=@yp5y yoey
def yewy (g:yiHy):Spec A:=fun args=>match args with | [.d (.str a1)]=>fun k=>g a1 (fun z0=>k (.d (.bool z0)) [.undef]) | _=>fun _=>none
noncomputable def yI5y:Code:=(Tryz.f167.body).getD .skip
noncomputable def yyPy (g:C_kit_IsName):Env A:=mkE [(62,yaUy g.kit_IsKey)] [] [] [] [] [] [] [] [] []
theorem ywQy (g:C_kit_IsName):Same (yewy (@yp5y g)) (abody (yyPy g) Tryz.f167 yI5y 0 [] [.asis] g.N):=by intro args; unfold yewy; split; exact .inr fun R k=>(by kernel_rfl); exact .inl fun R k=>rfl
theorem ywEy [Fuel]:Ok 167 (yewy (@kit_IsName _)):=yaay std (.cons yaDy .nil) ⟨rfl,rfl,by kernel_rfl,rfl,rfl,rfl⟩ (ywQy yoey) (cuts0 (fun _=>rfl) (by kernel_rfl)) Tryz.func167 (by kernel_rfl) (by kernel_rfl)
abbrev yrOy:Type 1:=G_Contact→{R:Type}→(Int→Option R)→Option R
structure C_z94z where
 N:Nat
 kit_IsKey:ybhy
 kit_IsMode:ycBy
 z48z:ycmy
 z71z:yfOy
 call_Is:ye1y
 kit_IsName:yiHy
def z94z_ (g:C_z94z) (a1:G_Contact) {R:Type} (k0:Int→Option R):Option R :=
 (g.z71z a1.f_At (fun r2=>(bif (!r2) then k0 1 else (g.kit_IsMode a1.f_Mode (fun r3=>(bif (!r3) then k0 4 else (g.kit_IsKey a1.f_Band (fun r4=>(bif (!r4) then k0 5 else (g.call_Is a1.f_Call (fun r5=>(bif (!r5) then k0 3 else (g.z48z a1.f_Sent 0 99999 (fun r6=>(bif r6 then k0 1 else (g.z48z a1.f_Heard 0 99999 (fun r7=>(bif r7 then k0 1 else (g.kit_IsName a1.f_Gave (fun r8=>(bif (!r8) then k0 5 else (g.kit_IsName a1.f_Got (fun r9=>(bif (!r9) then k0 5 else k0 0))))))))))))))))))))))))
noncomputable def yHUy [Fuel]:C_z94z:=⟨NN,@kit_IsKey _,@kit_IsMode _,@z48z _,@z71z _,@call_Is _,@kit_IsName _⟩
noncomputable def z94z [Fuel]:yrOy:=@z94z_ yHUy
def yk3y (g:yrOy):Spec A:=fun args=>match args with | [.agg [.d (.int .i64 a1),.d (.int .i64 a2),.d (.str a3),.d (.str a4),.d (.int .i64 a5),.d (.int .i64 a6),.d (.str a7),.d (.str a8)]]=>fun k=>g ⟨a1,a2,a3,a4,a5,a6,a7,a8⟩ (fun z0=>k (.d (.int .i64 z0)) [.undef]) | _=>fun _=>none
noncomputable def yIOy:Code:=(Tryz.f128.body).getD .skip
noncomputable def yR2y (g:C_z94z):Env A:=mkE [(62,yaUy g.kit_IsKey),(63,ybTy g.kit_IsMode),(64,ybKy g.z48z),(65,ydgy g.z71z),(71,ycVy g.call_Is),(167,yewy g.kit_IsName)] [(1,[0])] [] [] [] [] [] [] [] []
theorem yMay (g:C_z94z):Same (yk3y (@z94z_ g)) (abody (yR2y g) Tryz.f128 yIOy 1 [] [.asis] g.N):=by intro args; unfold yk3y; split; exact .inr fun R k=>(by kernel_rfl); exact .inl fun R k=>rfl
theorem yvwy [Fuel]:Ok 128 (yk3y (@z94z _)):=yaay std (.cons yaDy (.cons yc4y (.cons ybHy (.cons yeTy (.cons ycny (.cons ywEy .nil)))))) ⟨rfl,rfl,by kernel_rfl,rfl,rfl,rfl⟩ (yMay yHUy) (cuts0 (fun _=>rfl) (by kernel_rfl)) Tryz.func128 (by kernel_rfl) (by kernel_rfl)
abbrev yyty:Type 1:=G_Contact→G_Contact→{R:Type}→(Int→Option R)→Option R
structure C_z76z where
 N:Nat
 z29z:yfyy
 z40z:yfgy
 strings_Compare:yaQy
def z76z_ (g:C_z76z) (a1 a2:G_Contact) {R:Type} (k0:Int→Option R):Option R :=
 (g.z29z a1.f_At a2.f_At (fun r3=>(g.strings_Compare a1.f_Call a2.f_Call (fun r4=>(g.strings_Compare a1.f_Band a2.f_Band (fun r5=>(g.z29z a1.f_Mode a2.f_Mode (fun r6=>(g.z40z [r3,r4,r5,r6] (fun r7=>k0 r7))))))))))
noncomputable def yAty [Fuel]:C_z76z:=⟨NN,@z29z _,@z40z _,@strings_Compare _⟩
noncomputable def z76z [Fuel]:yyty:=@z76z_ yAty
def yeNy (g:yyty):Spec A:=fun args=>match args with | [.agg [.d (.int .i64 a1),.d (.int .i64 a2),.d (.str a3),.d (.str a4),.d (.int .i64 a5),.d (.int .i64 a6),.d (.str a7),.d (.str a8)],.agg [.d (.int .i64 a9),.d (.int .i64 a10),.d (.str a11),.d (.str a12),.d (.int .i64 a13),.d (.int .i64 a14),.d (.str a15),.d (.str a16)]]=>fun k=>g ⟨a1,a2,a3,a4,a5,a6,a7,a8⟩ ⟨a9,a10,a11,a12,a13,a14,a15,a16⟩ (fun z0=>k (.d (.int .i64 z0)) [.undef,.undef]) | _=>fun _=>none
noncomputable def yyoy:Code:=(Tryz.f129.body).getD .skip
noncomputable def yQxy (g:C_z76z):Env A:=mkE [(52,ybFy g.z29z),(75,ybGy g.z40z),(76,yazy g.strings_Compare)] [(2,[0]),(3,[1]),(25,[2])] [] [] [] [] [] [] [] []
theorem yMty (g:C_z76z):Same (yeNy (@z76z_ g)) (abody (yQxy g) Tryz.f129 yyoy 3 [] [.asis] g.N):=by intro args; unfold yeNy; split; exact .inr fun R k=>(by kernel_rfl); exact .inl fun R k=>rfl
theorem yDVy [Fuel]:Ok 129 (yeNy (@z76z _)):=yaay std (.cons ye2y (.cons yeVy (.cons yaYy .nil))) ⟨rfl,rfl,by kernel_rfl,rfl,rfl,rfl⟩ (yMty yAty) (cuts0 (fun _=>rfl) (by kernel_rfl)) Tryz.func129 (by kernel_rfl) (by kernel_rfl)
noncomputable def yMey (g:C_z76z):Env A:=mkED [(52,ybFy g.z29z),(75,ybGy g.z40z),(76,yazy g.strings_Compare)] [(2,[0]),(3,[1]),(25,[2])] [] [] [] [] [] [] [] []
theorem yKYy (g:C_z76z):Same (yeNy (@z76z_ g)) (abody (yMey g) Tryz.f129 yyoy 3 [] [.asis] g.N):=by intro args; unfold yeNy; split; exact .inr fun R k=>(by kernel_rfl); exact .inl fun R k=>rfl
theorem yy8y [Fuel]:OkD 129 (yeNy (@z76z _)):=yaay stdD (.cons yqXy (.cons yqRy (.cons ydry .nil))) ⟨rfl,rfl,by kernel_rfl,rfl,rfl,rfl⟩ (yKYy yAty) (cuts0 (fun _=>rfl) (by kernel_rfl)) Tryz.func129 (by kernel_rfl) (by kernel_rfl)
abbrev yxwy:Type 1:=List G_Contact→{R:Type}→(Int→Option R)→Option R
structure C_z81z where
 N:Nat
 z94z:yrOy
 z76z:yyty
def z81z_L4 (g:C_z81z):Nat→List G_Contact→List G_Contact→Int→Int→{R:Type}→(Int→Option R)→Option R→Option R
 | 0,_,_,_,_,_,_,_=>none
 | n + 1,v2,v3,v4,v5,_,e0,e1=>(bif (decide (v5 < v4)) then (get_ v3 v5 fun x10=>(g.z94z x10 (fun r11=>(bif (r11 != 0) then e0 r11 else (bif (decide (v5 > 0)) then (get_ v2 (w64 (v5 - 1)) fun x12=>(g.z76z x12 x10 (fun r13=>(bif (decide (r13 ≥ 0)) then e0 7 else z81z_L4 g n v2 v3 v4 (w64 (v5 + 1)) e0 e1)))) else z81z_L4 g n v2 v3 v4 (w64 (v5 + 1)) e0 e1))))) else e1)
def z81z_ (g:C_z81z) (a1:List G_Contact) {R:Type} (k0:Int→Option R):Option R :=
 (bif (decide ((a1.length:Int) > 2000)) then k0 2 else (z81z_L4 g g.N a1 a1 (a1.length:Int) 0 (fun e14=>k0 e14) (k0 0)))
noncomputable def ykAy [Fuel]:C_z81z:=⟨NN,@z94z _,@z76z _⟩
noncomputable def z81z [Fuel]:yxwy:=@z81z_ ykAy
def ypIy (g:yxwy):Spec A:=fun args=>match args with | [.d (.sl 89 a1)]=>fun k=>g a1 (fun z0=>k (.d (.int .i64 z0)) [.undef]) | _=>fun _=>none
def yk9y:SSt:=mkSh 34 1 [(0,.sl 89),(9,.sl 89),(10,.int .i64),(11,.int .i64)] []
def yfhy (g:C_z81z) (n:Nat):LPT A:=fun ps=>match ps with | [.d (.sl 89 p1),.d (.sl 89 p2),.d (.int .i64 p3),.d (.int .i64 p4)]=>fun K=>z81z_L4 g n p1 p2 p3 p4 (fun z0=>K .ret (mkSt 34 1 [(2,.d (.int .i64 z0))] [])) (K (.exit 0) (mkSt 34 1 [] [])) | _=>fun _=>none
noncomputable def yCty:Code:=(Tryz.f86.body).getD .skip
noncomputable def ytty (g:C_z81z):Env A:=mkE [(128,yk3y g.z94z),(129,yeNy g.z76z)] [(4,[0])] [(4,⟨[0,9,10,11],[],[],[],[],[],[]⟩)] [(4,⟨[2],[],[],[],[],[],[]⟩)] [(4,yady yk9y (yfhy g g.N))] [] [] [] [] []
theorem yNKy [Fuel]:yahy (ytty ykAy).C:=ct_of (P:=Tryz.prog) (T:=T) (.cons yvwy (.cons yDVy .nil)) (by kernel_rfl)
noncomputable def ysqy:Code:=sub [1,1,0,1,0,0] yCty
theorem yG7y (g:C_z81z) (n:Nat):yaiy (ytty g) g.N ysqy yk9y (yfhy g) n:=by intro ps; unfold yfhy; split; exact .inr fun R K=>(by kernel_rfl); exact .inl fun R K=>rfl
theorem yFPy [Fuel]:yaby (ytty ykAy) NN ysqy:=yacy yk9y (yfhy ykAy) (by kernel_rfl) yNKy (cuts0 (fun _=>rfl) (by kernel_rfl)) (fun ps R K=>by unfold yfhy; split <;> (try unfold z81z_L4) <;> rfl) (yG7y ykAy)
theorem yPCy (g:C_z81z):Same (ypIy (@z81z_ g)) (abody (ytty g) Tryz.f86 yCty 1 [] [.asis] g.N):=by intro args; unfold ypIy; split; exact .inr fun R k=>(by kernel_rfl); exact .inl fun R k=>rfl
theorem yNvy [Fuel]:Ok 86 (ypIy (@z81z _)):=yaay std (.cons yvwy (.cons yDVy .nil)) ⟨rfl,rfl,by kernel_rfl,rfl,rfl,rfl⟩ (yPCy ykAy) (cutsL (fun _=>rfl) (.cons yFPy .nil) (by kernel_rfl)) Tryz.func86 (by kernel_rfl) (by kernel_rfl)
abbrev yvdy:Type 1:=List UInt8→{R:Type}→(List UInt8→Option R)→Option R
structure C_z121z where
 N:Nat
 call_Parts:yfCy
def z121z_ (g:C_z121z) (a1:List UInt8) {R:Type} (k0:List UInt8→Option R):Option R :=
 (g.call_Parts a1 (fun r2 r3=>k0 r2.f_Base))
noncomputable def yDKy [Fuel]:C_z121z:=⟨NN,@call_Parts _⟩
noncomputable def z121z [Fuel]:yvdy:=@z121z_ yDKy
def ylpy (g:yvdy):Spec A:=fun args=>match args with | [.d (.str a1)]=>fun k=>g a1 (fun z0=>k (.d (.str z0)) [.undef]) | _=>fun _=>none
noncomputable def yJXy:Code:=(Tryz.f130.body).getD .skip
noncomputable def yQgy (g:C_z121z):Env A:=mkE [(111,yc2y g.call_Parts)] [(3,[0])] [] [] [] [] [] [] [] []
theorem yJSy (g:C_z121z):Same (ylpy (@z121z_ g)) (abody (yQgy g) Tryz.f130 yJXy 1 [] [.asis] g.N):=by intro args; unfold ylpy; split; exact .inr fun R k=>(by kernel_rfl); exact .inl fun R k=>rfl
theorem yzuy [Fuel]:Ok 130 (ylpy (@z121z _)):=yaay std (.cons ym1y .nil) ⟨rfl,rfl,by kernel_rfl,rfl,rfl,rfl⟩ (yJSy yDKy) (cuts0 (fun _=>rfl) (by kernel_rfl)) Tryz.func130 (by kernel_rfl) (by kernel_rfl)
abbrev yjGy:Type 1:=List G_Contact→{R:Type}→(List Int→Option R)→Option R
structure C_log_dupes where
 N:Nat
 z121z:yvdy
def ydAy (g:C_log_dupes):Nat→List G_Contact→Int→Int→List (G_log_worked×Bool)→List Int→{R:Type}→(List Int→Option R)→Option R
 | 0,_,_,_,_,_,_,_=>none
 | n + 1,v2,v3,v4,v5,v6,_,e0=>(bif (decide (v4 < v3)) then (get_ v2 v4 fun x9=>(g.z121z x9.f_Call (fun r10=>(bif ((ybXy (⟨r10,x9.f_Band,x9.f_Mode⟩:G_log_worked) v5).getD false) then (bif (decide ((v6.length + [v4].length) * 8≤yagy)) then ydAy g n v2 v3 (w64 (v4 + 1)) (ybCy (⟨r10,x9.f_Band,x9.f_Mode⟩:G_log_worked) true v5) (v6 ++ [v4]) e0 else none) else ydAy g n v2 v3 (w64 (v4 + 1)) (ybCy (⟨r10,x9.f_Band,x9.f_Mode⟩:G_log_worked) true v5) v6 e0)))) else e0 v6)
def yrGy (g:C_log_dupes) (a1:List G_Contact) {R:Type} (k0:List Int→Option R):Option R :=
 (ydAy g g.N a1 (a1.length:Int) 0 [] [] (fun e11=>k0 e11))
noncomputable def ydiy [Fuel]:C_log_dupes:=⟨NN,@z121z _⟩
noncomputable def log_dupes [Fuel]:yjGy:=@yrGy ydiy
def yfAy (g:yjGy):Spec A:=fun args=>match args with | [.d (.sl 89 a1)]=>fun k=>g a1 (fun z0=>k (.arr 3 z0) [.undef]) | _=>fun _=>none
def yfVy:SSt:=mkSh 35 6 [(3,.mp 0),(4,.own 3 1),(9,.sl 89),(10,.int .i64),(11,.int .i64)] [(0,.mp 186 4),(1,.row 3)]
def ycly (g:C_log_dupes) (n:Nat):LPT A:=fun ps=>match ps with | [.d (.sl 89 p1),.d (.int .i64 p2),.d (.int .i64 p3),.mp 186 4 p4,.d (.sl 3 p5)]=>fun K=>ydAy g n p1 p2 p3 p4 p5 (fun z0=>K (.exit 0) (mkSt 35 6 [(4,.own 3 1)] [(1,some (.row 3 z0))])) | _=>fun _=>none
noncomputable def yCFy:Code:=(Tryz.f87.body).getD .skip
noncomputable def yhgy (g:C_log_dupes):Env A:=mkE [(130,ylpy g.z121z)] [(6,[2]),(7,[3]),(8,[0]),(29,[4]),(30,[5])] [(4,⟨[3,4,9,10,11],[(4,3,1)],[0],[],[],[],[]⟩)] [(4,⟨[4],[],[1],[],[],[],[]⟩)] [(4,yady yfVy (ycly g g.N))] [] [] [] [] []
theorem yx5y [Fuel]:yahy (yhgy ydiy).C:=ct_of (P:=Tryz.prog) (T:=T) (.cons yzuy .nil) (by kernel_rfl)
noncomputable def yjxy:Code:=sub [1,1,1,0,1,0,0] yCFy
theorem yuUy (g:C_log_dupes) (n:Nat):yaiy (yhgy g) g.N yjxy yfVy (ycly g) n:=by intro ps; unfold ycly; split; exact .inr fun R K=>(by kernel_rfl); exact .inl fun R K=>rfl
theorem ys8y [Fuel]:yaby (yhgy ydiy) NN yjxy:=yacy yfVy (ycly ydiy) (by kernel_rfl) yx5y (cuts0 (fun _=>rfl) (by kernel_rfl)) (fun ps R K=>by unfold ycly; split <;> (try unfold ydAy) <;> rfl) (yuUy ydiy)
theorem yyGy (g:C_log_dupes):Same (yfAy (@yrGy g)) (abody (yhgy g) Tryz.f87 yCFy 6 [] [.arr 3] g.N):=by intro args; unfold yfAy; split; exact .inr fun R k=>(by kernel_rfl); exact .inl fun R k=>rfl
theorem yxPy [Fuel]:Ok 87 (yfAy (@log_dupes _)):=yaay std (.cons yzuy .nil) ⟨rfl,rfl,by kernel_rfl,rfl,rfl,rfl⟩ (yyGy ydiy) (cutsL (fun _=>rfl) (.cons ys8y .nil) (by kernel_rfl)) Tryz.func87 (by kernel_rfl) (by kernel_rfl)
abbrev yjVy:Type 1:=List G_Contact→{R:Type}→(List Int→Int→Option R)→Option R
structure C_log_Dupes where
 N:Nat
 z81z:yxwy
 log_dupes:yjGy
def ysVy (g:C_log_Dupes) (a1:List G_Contact) {R:Type} (k0:List Int→Int→Option R):Option R :=
 (g.z81z a1 (fun r2=>(bif (r2 != 0) then k0 [] r2 else (g.log_dupes a1 (fun r3=>k0 r3 0)))))
noncomputable def yp9y [Fuel]:C_log_Dupes:=⟨NN,@z81z _,@log_dupes _⟩
noncomputable def log_Dupes [Fuel]:yjVy:=@ysVy yp9y
def ygoy (g:yjVy):Spec A:=fun args=>match args with | [.d (.sl 89 a1)]=>fun k=>g a1 (fun z0 z1=>k (.tup [.arr 3 z0,.d (.int .i64 z1)]) [.undef]) | _=>fun _=>none
noncomputable def yNay:Code:=(Tryz.f45.body).getD .skip
noncomputable def yBQy (g:C_log_Dupes):Env A:=mkE [(86,ypIy g.z81z),(87,yfAy g.log_dupes)] [(11,[0])] [] [] [] [] [] [] [] []
theorem yx3y (g:C_log_Dupes):Same (ygoy (@ysVy g)) (abody (yBQy g) Tryz.f45 yNay 1 [] [.arr 3,.asis] g.N):=by intro args; unfold ygoy; split; exact .inr fun R k=>(by kernel_rfl); exact .inl fun R k=>rfl
theorem yycy [Fuel]:Ok 45 (ygoy (@log_Dupes _)):=yaay std (.cons yNvy (.cons yxPy .nil)) ⟨rfl,rfl,by kernel_rfl,rfl,rfl,rfl⟩ (yx3y yp9y) (cuts0 (fun _=>rfl) (by kernel_rfl)) Tryz.func45 (by kernel_rfl) (by kernel_rfl)
abbrev yi9y:Type 1:=G_Row→G_Row→{R:Type}→(Bool→G_Row→Option R)→Option R
def yjCy (g:Nat) (a1 a2:G_Row) {R:Type} (k0:Bool→G_Row→Option R):Option R :=
 (bif (decide (a1.f_From≤a2.f_From)) then k0 (decide (a2.f_To≤a1.f_To)) a2 else k0 false a2)
noncomputable def band_May_1 [Fuel]:yi9y:=@yjCy NN
def yery (g:yi9y):Spec A:=fun args=>match args with | [.agg [.d (.int .i64 a1),.d (.int .i64 a2)],.box [.d (.int .i64 a3),.d (.int .i64 a4)]]=>fun k=>g ⟨a1,a2⟩ ⟨a3,a4⟩ (fun z0 z1=>k (.d (.bool z0)) [.undef,.box [.d (.int .i64 z1.f_From),.d (.int .i64 z1.f_To)]]) | _=>fun _=>none
noncomputable def yM6y:Code:=(Tryz.f89.body).getD .skip
noncomputable def yAJy (g:Nat):Env A:=mkE [] [(2,[1])] [] [] [] [] [] [] [] [1]
theorem ywJy (g:Nat):Same (yery (@yjCy g)) (abody (yAJy g) Tryz.f89 yM6y 2 [0] [.asis] g):=by intro args; unfold yery; split; exact .inr fun R k=>(by kernel_rfl); exact .inl fun R k=>rfl
theorem yncy [Fuel]:Ok 89 (yery (@band_May_1 _)):=yaay std .nil ⟨rfl,rfl,by kernel_rfl,rfl,rfl,rfl⟩ (ywJy NN) (cuts0 (fun _=>rfl) (by kernel_rfl)) Tryz.func89 (by kernel_rfl) (by kernel_rfl)
abbrev yyBy:Type 1:=List G_Row→G_Row→{R:Type}→(Int→G_Row→Option R)→Option R
structure C_z19z where
 N:Nat
 band_May_1:yi9y
def z19z_L2 (g:C_z19z):Nat→List G_Row→Int→Int→G_Row→{R:Type}→(Int→G_Row→Option R)→(G_Row→Option R)→Option R
 | 0,_,_,_,_,_,_,_=>none
 | n + 1,v3,v4,v5,v6,_,e0,e1=>(bif (decide (v5 < v4)) then (get_ v3 v5 fun x10=>(g.band_May_1 x10 v6 (fun r11 r12=>(bif r11 then e0 v5 r12 else z19z_L2 g n v3 v4 (w64 (v5 + 1)) r12 e0 e1)))) else e1 v6)
def z19z_ (g:C_z19z) (a1:List G_Row) (a2:G_Row) {R:Type} (k0:Int→G_Row→Option R):Option R :=
 (z19z_L2 g g.N a1 (a1.length:Int) 0 a2 (fun e13 e14=>k0 e13 e14) (fun e15=>k0 (-1) e15))
noncomputable def yiDy [Fuel]:C_z19z:=⟨NN,@band_May_1 _⟩
noncomputable def z19z [Fuel]:yyBy:=@z19z_ yiDy
def yo8y (g:yyBy):Spec A:=fun args=>match args with | [.d (.sl 40 a1),.fn 89 [.box [.d (.int .i64 a2),.d (.int .i64 a3)]]]=>fun k=>g a1 ⟨a2,a3⟩ (fun z0 z1=>k (.d (.int .i64 z0)) [.undef,.fn 89 [.box [.d (.int .i64 z1.f_From),.d (.int .i64 z1.f_To)]]]) | _=>fun _=>none
def ylyy:SSt:=mkSh 19 1 [(0,.sl 40),(1,.fn 89 [.ptr 0 0]),(7,.int .i64),(8,.int .i64)] [(0,.box [.int .i64,.int .i64])]
def yfSy (g:C_z19z) (n:Nat):LPT A:=fun ps=>match ps with | [.d (.sl 40 p1),.d (.int .i64 p2),.d (.int .i64 p3),.d (.int .i64 p4),.d (.int .i64 p5)]=>fun K=>z19z_L2 g n p1 p2 p3 ⟨p4,p5⟩ (fun z0 z1=>K .ret (mkSt 19 1 [(1,.fn 89 [.ptr 0 0]),(4,.d (.int .i64 z0))] [(0,some (.box [.d (.int .i64 z1.f_From),.d (.int .i64 z1.f_To)]))])) (fun z0=>K (.exit 0) (mkSt 19 1 [(1,.fn 89 [.ptr 0 0])] [(0,some (.box [.d (.int .i64 z0.f_From),.d (.int .i64 z0.f_To)]))])) | _=>fun _=>none
noncomputable def yyyy:Code:=(Tryz.f131.body).getD .skip
noncomputable def ytXy (g:C_z19z):Env A:=mkE [(89,yery g.band_May_1)] [] [(2,⟨[0,1,7,8],[],[0],[],[],[],[]⟩)] [(2,⟨[1,4],[],[0],[],[],[],[]⟩)] [(2,yady ylyy (yfSy g g.N))] [] [] [] [] [1]
theorem yQry [Fuel]:yahy (ytXy yiDy).C:=ct_of (P:=Tryz.prog) (T:=T) (.cons yncy .nil) (by kernel_rfl)
noncomputable def yroy:Code:=sub [1,0,1,0,0] yyyy
theorem yIiy (g:C_z19z) (n:Nat):yaiy (ytXy g) g.N yroy ylyy (yfSy g) n:=by intro ps; unfold yfSy; split; exact .inr fun R K=>(by kernel_rfl); exact .inl fun R K=>rfl
theorem yF0y [Fuel]:yaby (ytXy yiDy) NN yroy:=yacy ylyy (yfSy yiDy) (by kernel_rfl) yQry (cuts0 (fun _=>rfl) (by kernel_rfl)) (fun ps R K=>by unfold yfSy; split <;> (try unfold z19z_L2) <;> rfl) (yIiy yiDy)
theorem yOWy (g:C_z19z):Same (yo8y (@z19z_ g)) (abody (ytXy g) Tryz.f131 yyyy 1 [0] [.asis] g.N):=by intro args; unfold yo8y; split; exact .inr fun R k=>(by kernel_rfl); exact .inl fun R k=>rfl
theorem yLJy [Fuel]:Ok 131 (yo8y (@z19z _)):=yaay std (.cons yncy .nil) ⟨rfl,rfl,by kernel_rfl,rfl,rfl,rfl⟩ (yOWy yiDy) (cutsL (fun _=>rfl) (.cons yF0y .nil) (by kernel_rfl)) Tryz.func131 (by kernel_rfl) (by kernel_rfl)
abbrev yAXy:Type 1:=List G_Row→G_Row→{R:Type}→(Bool→G_Row→Option R)→Option R
structure C_z54z where
 N:Nat
 z19z:yyBy
def z54z_ (g:C_z54z) (a1:List G_Row) (a2:G_Row) {R:Type} (k0:Bool→G_Row→Option R):Option R :=
 (g.z19z a1 a2 (fun r3 r4=>k0 (decide (r3 ≥ 0)) r4))
noncomputable def yAMy [Fuel]:C_z54z:=⟨NN,@z19z _⟩
noncomputable def z54z [Fuel]:yAXy:=@z54z_ yAMy
def yo3y (g:yAXy):Spec A:=fun args=>match args with | [.d (.sl 40 a1),.fn 89 [.box [.d (.int .i64 a2),.d (.int .i64 a3)]]]=>fun k=>g a1 ⟨a2,a3⟩ (fun z0 z1=>k (.d (.bool z0)) [.undef,.fn 89 [.box [.d (.int .i64 z1.f_From),.d (.int .i64 z1.f_To)]]]) | _=>fun _=>none
noncomputable def yQoy:Code:=(Tryz.f88.body).getD .skip
noncomputable def yRfy (g:C_z54z):Env A:=mkE [(131,yo8y g.z19z)] [] [] [] [] [] [] [] [(131,0)] [1]
theorem yNyy (g:C_z54z):Same (yo3y (@z54z_ g)) (abody (yRfy g) Tryz.f88 yQoy 1 [0] [.asis] g.N):=by intro args; unfold yo3y; split; exact .inr fun R k=>(by kernel_rfl); exact .inl fun R k=>rfl
theorem yPiy [Fuel]:Ok 88 (yo3y (@z54z _)):=yaay std (.cons yLJy .nil) ⟨rfl,rfl,by kernel_rfl,rfl,rfl,rfl⟩ (yNyy yAMy) (cuts0 (fun _=>rfl) (by kernel_rfl)) Tryz.func88 (by kernel_rfl) (by kernel_rfl)
abbrev ylay:Type 1:=List G_Segment→List UInt8→Int→Int→Int→Int→{R:Type}→(Bool→Int→Option R)→Option R
structure C_band_May where
 N:Nat
 z34z:yrWy
 kit_IsKey:ybhy
 kit_IsMode:ycBy
 z48z:ycmy
 z71z:yfOy
 z47z:ysCy
 band_used:yg3y
 z54z:yAXy
def yory (g:C_band_May) (a1:List G_Segment) (a2:List UInt8) (a3 a4 a5 a6:Int) {R:Type} (k0:Bool→Int→Option R):Option R :=
 (g.z34z a1 (fun r7=>(bif (r7 != 0) then k0 false r7 else (g.kit_IsKey a2 (fun r8=>(bif (!r8) then k0 false 5 else (g.z48z a3 0 30000000000 (fun r9=>(bif r9 then k0 false 1 else (g.z48z a4 1 100000 (fun r10=>(bif r10 then k0 false 1 else (g.kit_IsMode a5 (fun r11=>(bif (!r11) then k0 false 4 else (g.z71z a6 (fun r12=>(bif (!r12) then k0 false 1 else (g.band_used a3 a4 (fun r13=>(g.z47z a1 a2 a5 a6 (fun r14=>(g.z54z r14 r13 (fun r15 r16=>k0 r15 0))))))))))))))))))))))))
noncomputable def ymhy [Fuel]:C_band_May:=⟨NN,@z34z _,@kit_IsKey _,@kit_IsMode _,@z48z _,@z71z _,@z47z _,@band_used _,@z54z _⟩
noncomputable def band_May [Fuel]:ylay:=@yory ymhy
def yhiy (g:ylay):Spec A:=fun args=>match args with | [.d (.sl 52 a1),.d (.str a2),.d (.int .i64 a3),.d (.int .i64 a4),.d (.int .i64 a5),.d (.int .i64 a6)]=>fun k=>g a1 a2 a3 a4 a5 a6 (fun z0 z1=>k (.tup [.d (.bool z0),.d (.int .i64 z1)]) [.undef,.undef,.undef,.undef,.undef,.undef]) | _=>fun _=>none
noncomputable def yPLy:Code:=(Tryz.f46.body).getD .skip
noncomputable def yEJy (g:C_band_May):Env A:=mkE [(60,ykjy g.z34z),(62,yaUy g.kit_IsKey),(63,ybTy g.kit_IsMode),(64,ybKy g.z48z),(65,ydgy g.z71z),(66,ykBy g.z47z),(68,ydNy g.band_used),(88,yo3y g.z54z)] [(15,[0]),(47,[1])] [] [] [] [] [] [] [] []
theorem yBky (g:C_band_May):Same (yhiy (@yory g)) (abody (yEJy g) Tryz.f46 yPLy 2 [] [.asis,.asis] g.N):=by intro args; unfold yhiy; split; exact .inr fun R k=>(by kernel_rfl); exact .inl fun R k=>rfl
theorem yBAy [Fuel]:Ok 46 (yhiy (@band_May _)):=yaay std (.cons yCPy (.cons yaDy (.cons yc4y (.cons ybHy (.cons yeTy (.cons yuRy (.cons yiKy (.cons yPiy .nil)))))))) ⟨rfl,rfl,by kernel_rfl,rfl,rfl,rfl⟩ (yBky ymhy) (cuts0 (fun _=>rfl) (by kernel_rfl)) Tryz.func46 (by kernel_rfl) (by kernel_rfl)
abbrev yyEy:Type 1:=List UInt8→{R:Type}→(Bool→Option R)→Option R
def z87z_L4 (g:Nat):Nat→List UInt8→Int→Int→{R:Type}→(Bool→Option R)→Option R→Option R
 | 0,_,_,_,_,_,_=>none
 | n + 1,v2,v3,v4,_,e0,e1=>(bif (decide (v4 < v3)) then (bif ((w64 (Int.tdiv v4 2)) == 1) then (get_ v2 v4 fun x11=>(bif (decide ((x11.toNat:Int) < 48)) then e0 false else (get_ v2 v4 fun x12=>(bif (decide ((x12.toNat:Int) > 57)) then e0 false else z87z_L4 g n v2 v3 (w64 (v4 + 1)) e0 e1)))) else (bif ((w64 (Int.tdiv v4 2)) == 2) then (get_ v2 v4 fun x13=>(bif (decide ((x13.toNat:Int) < 97)) then e0 false else (get_ v2 v4 fun x14=>(bif (decide ((x14.toNat:Int) > 120)) then e0 false else z87z_L4 g n v2 v3 (w64 (v4 + 1)) e0 e1)))) else (get_ v2 v4 fun x15=>(bif (decide ((x15.toNat:Int) < 97)) then e0 false else (get_ v2 v4 fun x16=>(bif (decide ((x16.toNat:Int) > 114)) then e0 false else z87z_L4 g n v2 v3 (w64 (v4 + 1)) e0 e1)))))) else e1)
def z87z_ (g:Nat) (a1:List UInt8) {R:Type} (k0:Bool→Option R):Option R :=
 (bif ((a1.length:Int) != 2) then (bif ((a1.length:Int) != 4) then (bif ((a1.length:Int) != 6) then k0 false else (z87z_L4 g g a1 (a1.length:Int) 0 (fun e17=>k0 e17) (k0 true))) else (z87z_L4 g g a1 (a1.length:Int) 0 (fun e18=>k0 e18) (k0 true))) else (z87z_L4 g g a1 (a1.length:Int) 0 (fun e19=>k0 e19) (k0 true)))
noncomputable def z87z [Fuel]:yyEy:=@z87z_ NN
def ypLy (g:yyEy):Spec A:=fun args=>match args with | [.d (.str a1)]=>fun k=>g a1 (fun z0=>k (.d (.bool z0)) [.undef]) | _=>fun _=>none
def ylQy:SSt:=mkSh 43 0 [(0,.str),(20,.int .i64),(21,.int .i64)] []
def yfUy (g:Nat) (n:Nat):LPT A:=fun ps=>match ps with | [.d (.str p1),.d (.int .i64 p2),.d (.int .i64 p3)]=>fun K=>z87z_L4 g n p1 p2 p3 (fun z0=>K .ret (mkSt 43 0 [(2,.d (.bool z0))] [])) (K (.exit 0) (mkSt 43 0 [] [])) | _=>fun _=>none
noncomputable def yAQy:Code:=(Tryz.f168.body).getD .skip
noncomputable def yrKy (g:Nat):Env A:=mkE [] [] [(4,⟨[0,20,21],[],[],[],[],[],[]⟩)] [(4,⟨[2],[],[],[],[],[],[]⟩)] [(4,yady ylQy (yfUy g g))] [] [] [] [] []
theorem yLty [Fuel]:yahy (yrKy NN).C:=ct_of (P:=Tryz.prog) (T:=T) .nil (by kernel_rfl)
noncomputable def yrEy:Code:=sub [1,1,0,1,0,0] yAQy
theorem yHiy (g:Nat) (n:Nat):yaiy (yrKy g) g yrEy ylQy (yfUy g) n:=by intro ps; unfold yfUy; split; exact .inr fun R K=>(by kernel_rfl); exact .inl fun R K=>rfl
theorem yFLy [Fuel]:yaby (yrKy NN) NN yrEy:=yacy ylQy (yfUy NN) (by kernel_rfl) yLty (cuts0 (fun _=>rfl) (by kernel_rfl)) (fun ps R K=>by unfold yfUy; split <;> (try unfold z87z_L4) <;> rfl) (yHiy NN)
theorem yNhy (g:Nat):Same (ypLy (@z87z_ g)) (abody (yrKy g) Tryz.f168 yAQy 0 [] [.asis] g):=by intro args; unfold ypLy; split; exact .inr fun R k=>(by kernel_rfl); exact .inl fun R k=>rfl
theorem yPwy [Fuel]:Ok 168 (ypLy (@z87z _)):=yaay std .nil ⟨rfl,rfl,by kernel_rfl,rfl,rfl,rfl⟩ (yNhy NN) (cutsL (fun _=>rfl) (.cons yFLy .nil) (by kernel_rfl)) Tryz.func168 (by kernel_rfl) (by kernel_rfl)
abbrev yviy:Type 1:=List UInt8→{R:Type}→(Bool→Option R)→Option R
structure C_z111z where
 N:Nat
 z87z:yyEy
def z111z_ (g:C_z111z) (a1:List UInt8) {R:Type} (k0:Bool→Option R):Option R :=
 (bif ((a1.length:Int) == 6) then (g.z87z a1 (fun r2=>k0 r2)) else k0 false)
noncomputable def yCQy [Fuel]:C_z111z:=⟨NN,@z87z _⟩
noncomputable def z111z [Fuel]:yviy:=@z111z_ yCQy
def ymEy (g:yviy):Spec A:=fun args=>match args with | [.d (.str a1)]=>fun k=>g a1 (fun z0=>k (.d (.bool z0)) [.undef]) | _=>fun _=>none
noncomputable def yJpy:Code:=(Tryz.f132.body).getD .skip
noncomputable def yMly (g:C_z111z):Env A:=mkE [(168,ypLy g.z87z)] [] [] [] [] [] [] [] [] []
theorem yJUy (g:C_z111z):Same (ymEy (@z111z_ g)) (abody (yMly g) Tryz.f132 yJpy 0 [] [.asis] g.N):=by intro args; unfold ymEy; split; exact .inr fun R k=>(by kernel_rfl); exact .inl fun R k=>rfl
theorem yzny [Fuel]:Ok 132 (ymEy (@z111z _)):=yaay std (.cons yPwy .nil) ⟨rfl,rfl,by kernel_rfl,rfl,rfl,rfl⟩ (yJUy yCQy) (cuts0 (fun _=>rfl) (by kernel_rfl)) Tryz.func132 (by kernel_rfl) (by kernel_rfl)
end Go.Am
