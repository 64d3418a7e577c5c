/- The functions of the program as Lean functions, each shown to be what the code computes, part 10. No condition: lemmas for the claim. -/
import Derived.Test.YtfmhkakoakcpgaaGreatDoorF0
import Derived.Test.YtfmhkakoakcpgaaGreatDoorFSh
import Derived.Test.YtfmhkakoakcpgaaGreatDoorF1
import Derived.Test.YtfmhkakoakcpgaaGreatDoorF4
import Derived.Test.YtfmhkakoakcpgaaGreatDoorF5
import Derived.Test.YtfmhkakoakcpgaaGreatDoorF6
import Derived.Test.YtfmhkakoakcpgaaGreatDoorF9
set_option linter.unusedVariables false
set_option maxRecDepth 100000
namespace Go.Am
open Go Go.Proofs
abbrev ywAy:Type 1:=List G_Entrant→{R:Type}→(Int→Option R)→Option R
structure C_z27z where
 N:Nat
 z25z:yidy
 strings_Compare:ybcy
 z49z:yfny
 kit_IsKey:ybDy
 call_Is:yiCy
 z81z:yvey
def z27z_L4 (g:C_z27z):Nat→List G_Entrant→List G_Entrant→Int→Int→{R:Type}→(Int→Option R)→Option R→Option R
 | 0,_,_,_,_,_,_,_=>none
 | n + 1,v2,v3,v4,v5,_,e0,e1=>(bif (decide (v5 < v4)) then (get_ v3 v5 fun x21=>(g.call_Is x21.f_Call (fun r22=>(bif (!r22) then e0 3 else (g.kit_IsKey x21.f_Category (fun r23=>(bif (!r23) then e0 5 else (g.z49z x21.f_Points 0 1000000000000 (fun r24=>(bif r24 then e0 1 else (bif (!(x21.f_Locator == [])) then (g.z81z x21.f_Locator (fun r25=>(bif (!r25) then e0 3 else (bif (decide (v5 > 0)) then (get_ v2 (w64 (v5 - 1)) fun x26=>(get_ v2 (w64 (v5 - 1)) fun x27=>(g.strings_Compare x26.f_Category x21.f_Category (fun r28=>(g.strings_Compare x27.f_Call x21.f_Call (fun r29=>(g.z25z [r28,r29] (fun r30=>(bif (decide (r30 ≥ 0)) then e0 7 else z27z_L4 g n v2 v3 v4 (w64 (v5 + 1)) e0 e1))))))))) else z27z_L4 g n v2 v3 v4 (w64 (v5 + 1)) e0 e1)))) else (bif (decide (v5 > 0)) then (get_ v2 (w64 (v5 - 1)) fun x31=>(get_ v2 (w64 (v5 - 1)) fun x32=>(g.strings_Compare x31.f_Category x21.f_Category (fun r33=>(g.strings_Compare x32.f_Call x21.f_Call (fun r34=>(g.z25z [r33,r34] (fun r35=>(bif (decide (r35 ≥ 0)) then e0 7 else z27z_L4 g n v2 v3 v4 (w64 (v5 + 1)) e0 e1))))))))) else z27z_L4 g n v2 v3 v4 (w64 (v5 + 1)) e0 e1)))))))))))) else e1)
def z27z_ (g:C_z27z) (a1:List G_Entrant) {R:Type} (k0:Int→Option R):Option R :=
 (bif (decide ((a1.length:Int) > 500)) then k0 2 else (z27z_L4 g g.N a1 a1 (a1.length:Int) 0 (fun e36=>k0 e36) (k0 0)))
noncomputable def yjZy [Fuel]:C_z27z:=⟨NN,@z25z _,@strings_Compare _,@z49z _,@kit_IsKey _,@call_Is _,@z81z _⟩
noncomputable def z27z [Fuel]:ywAy:=@z27z_ yjZy
def ynFy (g:ywAy):Spec A:=fun args=>match args with | [.d (.sl 95 a1)]=>fun k=>g a1 (fun z0=>k (.d (.int .i64 z0)) [.undef]) | _=>fun _=>none
def ykhy:SSt:=mkSh 66 2 [(0,.sl 95),(8,.sl 95),(9,.int .i64),(10,.int .i64)] []
def yfky (g:C_z27z) (n:Nat):LPT A:=fun ps=>match ps with | [.d (.sl 95 p1),.d (.sl 95 p2),.d (.int .i64 p3),.d (.int .i64 p4)]=>fun K=>z27z_L4 g n p1 p2 p3 p4 (fun z0=>K .ret (mkSt 66 2 [(2,.d (.int .i64 z0))] [])) (K (.exit 0) (mkSt 66 2 [] [])) | _=>fun _=>none
noncomputable def yzJy:Code:=(Tryz.f76.body).getD .skip
noncomputable def yqgy (g:C_z27z):Env A:=mkE [(57,ybZy g.z25z),(59,yaFy g.strings_Compare),(60,yc8y g.z49z),(66,ybly g.kit_IsKey),(67,ye0y g.call_Is),(115,ynty g.z81z)] [(4,[0]),(61,[1])] [(4,⟨[0,8,9,10],[],[],[],[],[],[]⟩)] [(4,⟨[2],[],[],[],[],[],[]⟩)] [(4,yaiy ykhy (yfky g g.N))] [] [] [] [] []
theorem yGDy [Fuel]:yamy (yqgy yjZy).C:=ct_of (P:=Tryz.prog) (T:=T) (.cons yhyy (.cons ybky (.cons yeDy (.cons yaXy (.cons yhiy (.cons yyYy .nil)))))) (by kernel_rfl)
noncomputable def yqEy:Code:=sub [1,1,0,1,0,0] yzJy
theorem yCay (g:C_z27z) (n:Nat):yaoy (yqgy g) g.N yqEy ykhy (yfky g) n:=by intro ps; unfold yfky; split; exact .inr fun R K=>(by kernel_rfl); exact .inl fun R K=>rfl
theorem yASy [Fuel]:yahy (yqgy yjZy) NN yqEy:=yaky ykhy (yfky yjZy) (by kernel_rfl) yGDy (cuts0 (fun _=>rfl) (by kernel_rfl)) (fun ps R K=>by unfold yfky; split <;> (try unfold z27z_L4) <;> rfl) (yCay yjZy)
theorem yF3y (g:C_z27z):Same (ynFy (@z27z_ g)) (abody (yqgy g) Tryz.f76 yzJy 2 [] [.asis] g.N):=by intro args; unfold ynFy; split; exact .inr fun R k=>(by kernel_rfl); exact .inl fun R k=>rfl
theorem yy4y [Fuel]:Ok 76 (ynFy (@z27z _)):=yacy std (.cons yhyy (.cons ybky (.cons yeDy (.cons yaXy (.cons yhiy (.cons yyYy .nil)))))) ⟨rfl,rfl,by kernel_rfl,rfl,rfl,rfl⟩ (yF3y yjZy) (cutsL (fun _=>rfl) (.cons yASy .nil) (by kernel_rfl)) Tryz.func76 (by kernel_rfl) (by kernel_rfl)
abbrev yCfy:Type 1:=G_Place→G_Place→{R:Type}→(Int→Option R)→Option R
structure C_z44z where
 N:Nat
 z25z:yidy
 z26z:yjNy
 strings_Compare:ybcy
def z44z_ (g:C_z44z) (a1 a2:G_Place) {R:Type} (k0:Int→Option R):Option R :=
 (g.z26z a2.f_Points a1.f_Points (fun r3=>(g.strings_Compare a1.f_Key a2.f_Key (fun r4=>(g.z25z [r3,r4] (fun r5=>k0 r5))))))
noncomputable def yuly [Fuel]:C_z44z:=⟨NN,@z25z _,@z26z _,@strings_Compare _⟩
noncomputable def z44z [Fuel]:yCfy:=@z44z_ yuly
def yf1y (g:yCfy):Spec A:=fun args=>match args with | [.agg [.d (.int .i64 a1),.d (.int .i64 a2),.d (.str a3)],.agg [.d (.int .i64 a4),.d (.int .i64 a5),.d (.str a6)]]=>fun k=>g ⟨a1,a2,a3⟩ ⟨a4,a5,a6⟩ (fun z0=>k (.d (.int .i64 z0)) [.undef,.undef]) | _=>fun _=>none
noncomputable def ytUy:Code:=(Tryz.f117.body).getD .skip
noncomputable def yKXy (g:C_z44z):Env A:=mkE [(57,ybZy g.z25z),(58,yb7y g.z26z),(59,yaFy g.strings_Compare)] [(2,[0]),(3,[1]),(15,[2])] [] [] [] [] [] [] [] []
theorem yGMy (g:C_z44z):Same (yf1y (@z44z_ g)) (abody (yKXy g) Tryz.f117 ytUy 3 [] [.asis] g.N):=by intro args; unfold yf1y; split; exact .inr fun R k=>(by kernel_rfl); exact .inl fun R k=>rfl
theorem ok_z44z [Fuel]:Ok 117 (yf1y (@z44z _)):=yacy std (.cons yhyy (.cons ynGy (.cons ybky .nil))) ⟨rfl,rfl,by kernel_rfl,rfl,rfl,rfl⟩ (yGMy yuly) (cuts0 (fun _=>rfl) (by kernel_rfl)) Tryz.func117 (by kernel_rfl) (by kernel_rfl)
noncomputable def yIdy (g:C_z44z):Env A:=mkED [(57,ybZy g.z25z),(58,yb7y g.z26z),(59,yaFy g.strings_Compare)] [(2,[0]),(3,[1]),(15,[2])] [] [] [] [] [] [] [] []
theorem yELy (g:C_z44z):Same (yf1y (@z44z_ g)) (abody (yIdy g) Tryz.f117 ytUy 3 [] [.asis] g.N):=by intro args; unfold yf1y; split; exact .inr fun R k=>(by kernel_rfl); exact .inl fun R k=>rfl
theorem yuay [Fuel]:OkD 117 (yf1y (@z44z _)):=yacy stdD (.cons yoVy (.cons yoGy (.cons ydjy .nil))) ⟨rfl,rfl,by kernel_rfl,rfl,rfl,rfl⟩ (yELy yuly) (cuts0 (fun _=>rfl) (by kernel_rfl)) Tryz.func117 (by kernel_rfl) (by kernel_rfl)
abbrev ywdy:Type 1:=List G_Place→{R:Type}→(List G_Place→Option R)→Option R
noncomputable def z35z [Fuel]:ywdy:=@ybJy G_Place (@z44z _)
def yjVy (g:ywdy):Spec A:=fun args=>match args with | [.arr 138 a1,.fn 117 []]=>fun k=>g a1 (fun z=>k (.tup []) [.arr 138 z,.fn 117 []]) | _=>fun _=>none
theorem yyvy [Fuel] (xs:List (A 138)) (R:Type) (k:IV A→List (IV A)→Option R):yjVy (@z35z _) [.arr 138 xs,.fn 117 []] k = ybJy (α:=A 138) (@z44z _) xs (fun z=>k (.tup []) [.arr 138 z,.fn 117 []]):=by kernel_rfl
theorem yzzy [Fuel] (args:List (IV A)) (R:Type) (k:IV A→List (IV A)→Option R) (h:∀ xs:List (A 138),args ≠ [.arr 138 xs,.fn 117 []]):yjVy (@z35z _) args k = none:=by unfold yjVy; split; exact absurd rfl (h _); rfl
theorem yGny [Fuel] (x y:A 138) (R:Type) (k:Int→Option R):yjhy T (yf1y (@z44z _)) 138 x y k = @z44z _ x y R k:=by kernel_rfl
theorem yHZy (x:G_Place):(yk6y x).all scal = true:=rfl
theorem yyNy [Fuel]:Ok 116 (yjVy (@z35z _)):=⟨yguy (tyOk Tryz.prog) (e:=138) Tryz.sortf116 Tryz.isAgg138 Tryz.sizeOf138 (fun x d hd=>List.all_eq_true.1 (yHZy x) d hd) yGny yuay.fs yuay.en yyvy yzzy,yk8y (e:=138) yyvy yzzy,yaSy (fn:=Tryz.f116) Tryz.func116 (by kernel_rfl) (by kernel_rfl)⟩
abbrev ytOy:Type 1:=List G_Place→{R:Type}→(List G_Place→Option R)→Option R
structure C_z18z where
 N:Nat
 z35z:ywdy
def z18z_L3 (g:C_z18z):Nat→Int→Int→List G_Place→{R:Type}→(List G_Place→Option R)→Option R
 | 0,_,_,_,_,_=>none
 | n + 1,v3,v4,v5,_,e0=>(bif (decide (v4 < v3)) then (inr v5 v4 (at_ v5 v4 fun x11=>(bif (decide (v4 > 0)) then (inr (set_ v5 v4 (⟨(w64 (v4 + 1)),x11.f_Points,x11.f_Key⟩:G_Place)) v4 (at_ (set_ v5 v4 (⟨(w64 (v4 + 1)),x11.f_Points,x11.f_Key⟩:G_Place)) v4 fun x12=>(inr (set_ v5 v4 (⟨(w64 (v4 + 1)),x11.f_Points,x11.f_Key⟩:G_Place)) (w64 (v4 - 1)) (at_ (set_ v5 v4 (⟨(w64 (v4 + 1)),x11.f_Points,x11.f_Key⟩:G_Place)) (w64 (v4 - 1)) fun x13=>(bif (x12.f_Points == x13.f_Points) then (inr (set_ v5 v4 (⟨(w64 (v4 + 1)),x11.f_Points,x11.f_Key⟩:G_Place)) (w64 (v4 - 1)) (at_ (set_ v5 v4 (⟨(w64 (v4 + 1)),x11.f_Points,x11.f_Key⟩:G_Place)) (w64 (v4 - 1)) fun x14=>(inr (set_ v5 v4 (⟨(w64 (v4 + 1)),x11.f_Points,x11.f_Key⟩:G_Place)) v4 (at_ (set_ v5 v4 (⟨(w64 (v4 + 1)),x11.f_Points,x11.f_Key⟩:G_Place)) v4 fun x15=>z18z_L3 g n v3 (w64 (v4 + 1)) (set_ (set_ v5 v4 (⟨(w64 (v4 + 1)),x11.f_Points,x11.f_Key⟩:G_Place)) v4 (⟨x14.f_Rank,x15.f_Points,x15.f_Key⟩:G_Place)) e0)))) else z18z_L3 g n v3 (w64 (v4 + 1)) (set_ v5 v4 (⟨(w64 (v4 + 1)),x11.f_Points,x11.f_Key⟩:G_Place)) e0))))) else z18z_L3 g n v3 (w64 (v4 + 1)) (set_ v5 v4 (⟨(w64 (v4 + 1)),x11.f_Points,x11.f_Key⟩:G_Place)) e0))) else e0 v5)
def z18z_ (g:C_z18z) (a1:List G_Place) {R:Type} (k0:List G_Place→Option R):Option R :=
 (g.z35z a1 (fun r2=>(z18z_L3 g g.N (r2.length:Int) 0 r2 (fun e16=>k0 e16))))
noncomputable def yfqy [Fuel]:C_z18z:=⟨NN,@z35z _⟩
noncomputable def z18z [Fuel]:ytOy:=@z18z_ yfqy
def ynZy (g:ytOy):Spec A:=fun args=>match args with | [.arr 138 a1]=>fun k=>g a1 (fun z0=>k (.arr 138 z0) [.undef]) | _=>fun _=>none
def yk4y:SSt:=mkSh 45 1 [(0,.own 138 0),(7,.int .i64),(8,.int .i64)] [(0,.row 138)]
def yfIy (g:C_z18z) (n:Nat):LPT A:=fun ps=>match ps with | [.d (.int .i64 p1),.d (.int .i64 p2),.d (.sl 138 p3)]=>fun K=>z18z_L3 g n p1 p2 p3 (fun z0=>K (.exit 0) (mkSt 45 1 [(0,.own 138 0)] [(0,some (.row 138 z0))])) | _=>fun _=>none
noncomputable def yx5y:Code:=(Tryz.f77.body).getD .skip
noncomputable def yq2y (g:C_z18z):Env A:=mkE [(116,yjVy g.z35z)] [] [(3,⟨[0,7,8],[],[0],[],[],[],[]⟩)] [(3,⟨[0],[],[0],[],[],[],[]⟩)] [(3,yaiy yk4y (yfIy g g.N))] [] [] [] [(116,0)] []
theorem yHry [Fuel]:yamy (yq2y yfqy).C:=ct_of (P:=Tryz.prog) (T:=T) (.cons yyNy .nil) (by kernel_rfl)
noncomputable def ypoy:Code:=sub [1,1,0,1,0,0] yx5y
theorem yBpy (g:C_z18z) (n:Nat):yaoy (yq2y g) g.N ypoy yk4y (yfIy g) n:=by intro ps; unfold yfIy; split; exact .inr fun R K=>(by kernel_rfl); exact .inl fun R K=>rfl
theorem yA2y [Fuel]:yahy (yq2y yfqy) NN ypoy:=yaky yk4y (yfIy yfqy) (by kernel_rfl) yHry (cuts0 (fun _=>rfl) (by kernel_rfl)) (fun ps R K=>by unfold yfIy; split <;> (try unfold z18z_L3) <;> rfl) (yBpy yfqy)
theorem yH8y (g:C_z18z):Same (ynZy (@z18z_ g)) (abody (yq2y g) Tryz.f77 yx5y 1 [0] [.arr 138] g.N):=by intro args; unfold ynZy; split; exact .inr fun R k=>(by kernel_rfl); exact .inl fun R k=>rfl
theorem yxYy [Fuel]:Ok 77 (ynZy (@z18z _)):=yacy std (.cons yyNy .nil) ⟨rfl,rfl,by kernel_rfl,rfl,rfl,rfl⟩ (yH8y yfqy) (cutsL (fun _=>rfl) (.cons yA2y .nil) (by kernel_rfl)) Tryz.func77 (by kernel_rfl) (by kernel_rfl)
abbrev yhPy:Type 1:=List G_Entrant→List UInt8→{R:Type}→(List G_Place→Int→Option R)→Option R
structure C_club_Table where
 N:Nat
 kit_IsKey:ybDy
 z27z:ywAy
 z18z:ytOy
def ycmy (g:C_club_Table):Nat→List UInt8→List G_Entrant→Int→Int→List G_Place→{R:Type}→(List G_Place→Option R)→Option R
 | 0,_,_,_,_,_,_,_=>none
 | n + 1,v5,v6,v7,v8,v9,_,e0=>(bif (decide (v8 < v7)) then (get_ v6 v8 fun x11=>(bif (x11.f_Category == v5) then (bif (decide ((v9.length + [(⟨0,x11.f_Points,x11.f_Call⟩:G_Place)].length) * 32≤yady)) then ycmy g n v5 v6 v7 (w64 (v8 + 1)) (v9 ++ [(⟨0,x11.f_Points,x11.f_Call⟩:G_Place)]) e0 else none) else ycmy g n v5 v6 v7 (w64 (v8 + 1)) v9 e0)) else e0 v9)
def yiZy (g:C_club_Table) (a1:List G_Entrant) (a2:List UInt8) {R:Type} (k0:List G_Place→Int→Option R):Option R :=
 (g.z27z a1 (fun r3=>(bif (r3 != 0) then k0 [] r3 else (g.kit_IsKey a2 (fun r4=>(bif (!r4) then k0 [] 5 else (ycmy g g.N a2 a1 (a1.length:Int) 0 [] (fun e12=>(g.z18z e12 (fun r13=>k0 r13 0))))))))))
noncomputable def ybny [Fuel]:C_club_Table:=⟨NN,@kit_IsKey _,@z27z _,@z18z _⟩
noncomputable def club_Table [Fuel]:yhPy:=@yiZy ybny
def yeqy (g:yhPy):Spec A:=fun args=>match args with | [.d (.sl 95 a1),.d (.str a2)]=>fun k=>g a1 a2 (fun z0 z1=>k (.tup [.arr 138 z0,.d (.int .i64 z1)]) [.undef,.undef]) | _=>fun _=>none
def yezy:SSt:=mkSh 39 5 [(1,.str),(7,.own 138 0),(18,.sl 95),(19,.int .i64),(20,.int .i64)] [(0,.row 138)]
def ycay (g:C_club_Table) (n:Nat):LPT A:=fun ps=>match ps with | [.d (.str p1),.d (.sl 95 p2),.d (.int .i64 p3),.d (.int .i64 p4),.d (.sl 138 p5)]=>fun K=>ycmy g n p1 p2 p3 p4 p5 (fun z0=>K (.exit 0) (mkSt 39 5 [(7,.own 138 0)] [(0,some (.row 138 z0))])) | _=>fun _=>none
noncomputable def yyly:Code:=(Tryz.f38.body).getD .skip
noncomputable def yfhy (g:C_club_Table):Env A:=mkE [(66,ybly g.kit_IsKey),(76,ynFy g.z27z),(77,ynZy g.z18z)] [(9,[1]),(34,[2]),(35,[3]),(38,[4])] [(8,⟨[1,7,18,19,20],[(7,138,0)],[],[],[],[],[]⟩)] [(8,⟨[7],[],[0],[],[],[],[]⟩)] [(8,yaiy yezy (ycay g g.N))] [] [] [] [(77,0)] []
theorem ytey [Fuel]:yamy (yfhy ybny).C:=ct_of (P:=Tryz.prog) (T:=T) (.cons yaXy (.cons yy4y (.cons yxYy .nil))) (by kernel_rfl)
noncomputable def yicy:Code:=sub [1,1,1,1,0,1,0,0] yyly
theorem ypvy (g:C_club_Table) (n:Nat):yaoy (yfhy g) g.N yicy yezy (ycay g) n:=by intro ps; unfold ycay; split; exact .inr fun R K=>(by kernel_rfl); exact .inl fun R K=>rfl
theorem yoKy [Fuel]:yahy (yfhy ybny) NN yicy:=yaky yezy (ycay ybny) (by kernel_rfl) ytey (cuts0 (fun _=>rfl) (by kernel_rfl)) (fun ps R K=>by unfold ycay; split <;> (try unfold ycmy) <;> rfl) (ypvy ybny)
theorem ys5y (g:C_club_Table):Same (yeqy (@yiZy g)) (abody (yfhy g) Tryz.f38 yyly 5 [] [.arr 138,.asis] g.N):=by intro args; unfold yeqy; split; exact .inr fun R k=>(by kernel_rfl); exact .inl fun R k=>rfl
theorem ys8y [Fuel]:Ok 38 (yeqy (@club_Table _)):=yacy std (.cons yaXy (.cons yy4y (.cons yxYy .nil))) ⟨rfl,rfl,by kernel_rfl,rfl,rfl,rfl⟩ (ys5y ybny) (cutsL (fun _=>rfl) (.cons yoKy .nil) (by kernel_rfl)) Tryz.func38 (by kernel_rfl) (by kernel_rfl)
abbrev yvny:Type 1:={R:Type}→Option R
def z76z_ (g:Nat)  {R:Type}  : Option R :=
 none
noncomputable def z76z [Fuel]:yvny:=@z76z_ NN
def ynmy (g:yvny):Spec A:=fun args=>match args with | [.d (.lit (.pointer none))]=>fun k=>g | _=>fun _=>none
noncomputable def ykmy:Code:=(Tryz.f118.body).getD .skip
noncomputable def yB8y (g:Nat):Env A:=mkE [] [(6,[0])] [] [] [] [] [] [] [] []
noncomputable def yAHy:Code:=sub [1,1,0,1,0,0] ykmy
theorem yzRy [Fuel]:yahy (yB8y NN) NN yAHy:=yeEy (by kernel_rfl)
theorem yFuy (g:Nat):Same (ynmy (@z76z_ g)) (abody (yB8y g) Tryz.f118 ykmy 1 [] [.asis] g):=by intro args; unfold ynmy; split; exact .inr fun R k=>(by kernel_rfl); exact .inl fun R k=>rfl
theorem yIGy [Fuel]:Ok 118 (ynmy (@z76z _)):=yacy std .nil ⟨rfl,rfl,by kernel_rfl,rfl,rfl,rfl⟩ (yFuy NN) (cutsL (fun _=>rfl) (.cons yzRy .nil) (by kernel_rfl)) Tryz.func118 (by kernel_rfl) (by kernel_rfl)
abbrev yvNy:Type 1:={R:Type}→Option R
structure C_z65z where
 N:Nat
 z76z:yvny
def z65z_ (g:C_z65z)  {R:Type}  : Option R :=
 (g.z76z)
noncomputable def ywfy [Fuel]:C_z65z:=⟨NN,@z76z _⟩
noncomputable def z65z [Fuel]:yvNy:=@z65z_ ywfy
def ynXy (g:yvNy):Spec A:=fun args=>match args with | [.d (.lit (.pointer none))]=>fun k=>g | _=>fun _=>none
noncomputable def yn0y:Code:=(Tryz.f78.body).getD .skip
noncomputable def yCGy (g:C_z65z):Env A:=mkE [(118,ynmy g.z76z)] [] [] [] [] [] [] [] [] []
noncomputable def yAIy:Code:=sub [1,1,0,1,0,0] yn0y
theorem yA4y [Fuel]:yahy (yCGy ywfy) NN yAIy:=yeEy (by kernel_rfl)
theorem yHpy (g:C_z65z):Same (ynXy (@z65z_ g)) (abody (yCGy g) Tryz.f78 yn0y 0 [] [.asis,.asis] g.N):=by intro args; unfold ynXy; split; exact .inr fun R k=>(by kernel_rfl); exact .inl fun R k=>rfl
theorem yGKy [Fuel]:Ok 78 (ynXy (@z65z _)):=yacy std (.cons yIGy .nil) ⟨rfl,rfl,by kernel_rfl,rfl,rfl,rfl⟩ (yHpy ywfy) (cutsL (fun _=>rfl) (.cons yA4y .nil) (by kernel_rfl)) Tryz.func78 (by kernel_rfl) (by kernel_rfl)
abbrev ywty:Type 1:=List G_Deed→List G_Contact→List (List UInt8)→List Int→List (G_net_own×Bool)→{R:Type}→(List (Int×Int)→List G_Deed→List G_Contact→List (List UInt8)→List Int→List (G_net_own×Bool)→Option R)→Option R
def z33z_L3 (g:Nat):Nat→Int→Int→List (G_net_own×Bool)→List (Int×Int)→List G_Deed→List G_Contact→List (List UInt8)→List Int→{R:Type}→(List (G_net_own×Bool)→List (Int×Int)→List G_Deed→List G_Contact→List (List UInt8)→List Int→Option R)→Option R
 | 0,_,_,_,_,_,_,_,_,_,_=>none
 | n + 1,v6,v7,v8,v9,v10,v11,v12,v13,_,e0=>(bif (decide (v7 < v6)) then (inr v11 v7 (at_ v11 v7 fun x15=>(bif (decide (x15.f_Sent > 0)) then z33z_L3 g n v6 (w64 (v7 + 1)) v8 (ydFy x15.f_Sent (w64 (((ycgy x15.f_Sent v9).getD 0) + 1)) v9) v10 v11 v12 v13 e0 else z33z_L3 g n v6 (w64 (v7 + 1)) v8 v9 v10 v11 v12 v13 e0))) else e0 v8 v9 v10 v11 v12 v13)
def z33z_ (g:Nat) (a1:List G_Deed) (a2:List G_Contact) (a3:List (List UInt8)) (a4:List Int) (a5:List (G_net_own×Bool)) {R:Type} (k0:List (Int×Int)→List G_Deed→List G_Contact→List (List UInt8)→List Int→List (G_net_own×Bool)→Option R):Option R :=
 (z33z_L3 g g (a2.length:Int) 0 a5 [] a1 a2 a3 a4 (fun e16 e17 e18 e19 e20 e21=>k0 e17 e18 e19 e20 e21 e16))
noncomputable def z33z [Fuel]:ywty:=@z33z_ NN
def yn2y (g:ywty):Spec A:=fun args=>match args with | [.box [.arr 41 a1,.arr 39 a2,.arr 9 a3,.arr 3 a4,.mp 70 4 a5]]=>fun k=>g a1 a2 a3 a4 a5 (fun z0 z1 z2 z3 z4 z5=>k (.mp 3 3 z0) [.box [.arr 41 z1,.arr 39 z2,.arr 9 z3,.arr 3 z4,.mp 70 4 z5]]) | _=>fun _=>none
def yk7y:SSt:=mkSh 26 12 [(0,.ptr 0 0),(3,.mp 6),(10,.own 39 8),(11,.int .i64),(12,.int .i64)] [(0,.box [.own 41 7,.own 39 8,.own 9 9,.own 3 10,.mp 5]),(5,.mp 70 4),(6,.mp 3 3),(7,.row 41),(8,.row 39),(9,.row 9),(10,.row 3)]
def yfdy (g:Nat) (n:Nat):LPT A:=fun ps=>match ps with | [.d (.int .i64 p1),.d (.int .i64 p2),.mp 70 4 p3,.mp 3 3 p4,.d (.sl 41 p5),.d (.sl 39 p6),.d (.sl 9 p7),.d (.sl 3 p8)]=>fun K=>z33z_L3 g n p1 p2 p3 p4 p5 p6 p7 p8 (fun z0 z1 z2 z3 z4 z5=>K (.exit 0) (mkSt 26 12 [(0,.ptr 0 0),(3,.mp 6)] [(0,some (.box [.own 41 7,.own 39 8,.own 9 9,.own 3 10,.mp 5])),(5,some (.mp 70 4 z0)),(6,some (.mp 3 3 z1)),(7,some (.row 41 z2)),(8,some (.row 39 z3)),(9,some (.row 9 z4)),(10,some (.row 3 z5))])) | _=>fun _=>none
noncomputable def ypty (g:Nat):Env A:=mkE [] [(5,[11]),(6,[6])] [(3,⟨[0,3,10,11,12],[],[0,5,6],[(0,0,41,7),(0,1,39,8),(0,2,9,9),(0,3,3,10)],[],[],[]⟩)] [(3,⟨[0,3],[],[0,5,6,7,8,9,10],[],[],[],[]⟩)] [(3,yaiy yk7y (yfdy g g))] [] [] [] [] [0]
theorem yHny [Fuel]:yamy (ypty NN).C:=ct_of (P:=Tryz.prog) (T:=T) .nil (by kernel_rfl)
noncomputable def ypMy:Code:=sub [1,1,0,1,0,0] ykmy
theorem yCpy (g:Nat) (n:Nat):yaoy (ypty g) g ypMy yk7y (yfdy g) n:=by intro ps; unfold yfdy; split; exact .inr fun R K=>(by kernel_rfl); exact .inl fun R K=>rfl
theorem yzTy [Fuel]:yahy (ypty NN) NN ypMy:=yaky yk7y (yfdy NN) (by kernel_rfl) yHny (cuts0 (fun _=>rfl) (by kernel_rfl)) (fun ps R K=>by unfold yfdy; split <;> (try unfold z33z_L3) <;> rfl) (yCpy NN)
theorem yGjy (g:Nat):Same (yn2y (@z33z_ g)) (abody (ypty g) Tryz.f118 ykmy 12 [0,1,2,3,4,5] [.asis] g):=by intro args; unfold yn2y; split; exact .inr fun R k=>(by kernel_rfl); exact .inl fun R k=>rfl
theorem yyBy [Fuel]:Ok 118 (yn2y (@z33z _)):=yacy std .nil ⟨rfl,rfl,by kernel_rfl,rfl,rfl,rfl⟩ (yGjy NN) (cutsL (fun _=>rfl) (.cons yzTy .nil) (by kernel_rfl)) Tryz.func118 (by kernel_rfl) (by kernel_rfl)
abbrev T_z8z:Type 1:=List G_Deed→List G_Contact→List (List UInt8)→List Int→List (G_net_own×Bool)→{R:Type}→(List (Int×Int)→List G_Deed→List G_Contact→List (List UInt8)→List Int→List (G_net_own×Bool)→Option R)→Option R
noncomputable def z8z_L3 (g:Nat):Nat→List (G_net_own×Bool)→List (G_net_own×Bool)→List (Int×Int)→List G_Deed→List G_Contact→List (List UInt8)→List Int→{R:Type}→(List (G_net_own×Bool)→List (Int×Int)→List G_Deed→List G_Contact→List (List UInt8)→List Int→Option R)→Option R
 | 0,_,_,_,_,_,_,_,_,_=>none
 | n + 1,m11,l12,v6,v7,v8,v9,v10,_,e0=>(ydHy l12 (e0 m11 v6 v7 v8 v9 v10) fun x15 l16=>z8z_L3 g n m11 l16 (ydFy x15.1.f_no (w64 (((ycgy x15.1.f_no v6).getD 0) + 1)) v6) v7 v8 v9 v10 e0)
noncomputable def yjsy (g:Nat) (a1:List G_Deed) (a2:List G_Contact) (a3:List (List UInt8)) (a4:List Int) (a5:List (G_net_own×Bool)) {R:Type} (k0:List (Int×Int)→List G_Deed→List G_Contact→List (List UInt8)→List Int→List (G_net_own×Bool)→Option R):Option R :=
 (z8z_L3 g g a5 a5 [] a1 a2 a3 a4 (fun e17 e18 e19 e20 e21 e22=>k0 e18 e19 e20 e21 e22 e17))
def yoXy (p:IV A×List (IV A)):Option ((List (Int×Int))×(List G_Deed)×(List G_Contact)×(List (List UInt8))×(List Int)×(List (G_net_own×Bool))):=match p with | (.mp 3 3 b1,[.box [.arr 41 b2,.arr 39 b3,.arr 9 b4,.arr 3 b5,.mp 70 4 b6]])=>some (b1,b2,b3,b4,b5,b6) | _=>none
def yf6y (q:(List (Int×Int))×(List G_Deed)×(List G_Contact)×(List (List UInt8))×(List Int)×(List (G_net_own×Bool))):IV A×List (IV A):=(.mp 3 3 q.1,[.box [.arr 41 q.2.1,.arr 39 q.2.2.1,.arr 9 q.2.2.2.1,.arr 3 q.2.2.2.2.1,.mp 70 4 q.2.2.2.2.2]])
theorem yFJy (p:IV A×List (IV A)) (q:(List (Int×Int))×(List G_Deed)×(List G_Contact)×(List (List UInt8))×(List Int)×(List (G_net_own×Bool))) (h:yoXy p = some q):p = yf6y q:=by unfold yoXy at h; split at h; (cases h; rfl); cases h
noncomputable def z8z_ (g:Nat) (a1:List G_Deed) (a2:List G_Contact) (a3:List (List UInt8)) (a4:List Int) (a5:List (G_net_own×Bool)) {R:Type} (k0:List (Int×Int)→List G_Deed→List G_Contact→List (List UInt8)→List Int→List (G_net_own×Bool)→Option R):Option R :=
 (yjsy g a1 a2 a3 a4 a5 (fun z0 z1 z2 z3 z4 z5=>some (yf6y (z0,z1,z2,z3,z4,z5)))).bind fun p=>(decK yoXy p (fun q=>k0 q.1 q.2.1 q.2.2.1 q.2.2.2.1 q.2.2.2.2.1 q.2.2.2.2.2) none)
noncomputable def z8z [Fuel]:T_z8z:=@z8z_ NN
def yfzy (g:T_z8z):Spec A:=fun args=>match args with | [.box [.arr 41 a1,.arr 39 a2,.arr 9 a3,.arr 3 a4,.mp 70 4 a5]]=>fun k=>g a1 a2 a3 a4 a5 (fun z0 z1 z2 z3 z4 z5=>k (.mp 3 3 z0) [.box [.arr 41 z1,.arr 39 z2,.arr 9 z3,.arr 3 z4,.mp 70 4 z5]]) | _=>fun _=>none
def ymmy:SSt:=mkSh 21 12 [(0,.ptr 0 0),(3,.mp 6),(9,.mp 5)] [(0,.box [.own 41 7,.own 39 8,.own 9 9,.own 3 10,.mp 5]),(5,.gone (2,0)),(6,.mp 3 3),(7,.row 41),(8,.row 39),(9,.row 9),(10,.row 3)]
noncomputable def ygVy (g:Nat) (n:Nat) (m l:List (A 70×A 4)):LPT A:=fun ps=>match ps with | [.mp 3 3 p1,.d (.sl 41 p2),.d (.sl 39 p3),.d (.sl 9 p4),.d (.sl 3 p5)]=>fun K=>z8z_L3 g n m l p1 p2 p3 p4 p5 (fun z0 z1 z2 z3 z4 z5=>K .normal (mkSt 21 12 [(0,.ptr 0 0),(3,.mp 6)] [(0,some (.box [.own 41 7,.own 39 8,.own 9 9,.own 3 10,.mp 5])),(5,some (.mp 70 4 z0)),(6,some (.mp 3 3 z1)),(7,some (.row 41 z2)),(8,some (.row 39 z3)),(9,some (.row 9 z4)),(10,some (.row 3 z5))])) | _=>fun _=>none
noncomputable def yoWy:Code:=(Tryz.f119.body).getD .skip
noncomputable def E_z8z (g:Nat):Env A:=mkE [] [(4,[11]),(5,[6])] [(3,⟨[0,3,9],[],[0,5,6],[(0,0,41,7),(0,1,39,8),(0,2,9,9),(0,3,3,10)],[],[],[]⟩)] [(3,⟨[0,3],[],[0,5,6,7,8,9,10],[],[],[],[]⟩)] [] [] [] [] [] [0]
noncomputable def yDly (g:Nat):Nat→Option (ybIy A):=fun i=>List.lookup i [(3,yc6y 5 70 4 ymmy (ygVy g g))]
theorem ct_z8z [Fuel]:yamy (E_z8z NN).C:=ct_of (P:=Tryz.prog) (T:=T) .nil (by kernel_rfl)
noncomputable def ysfy:RangeP:=(ydGy (sub [1,1,0,0] yoWy) (sub [1,1,0,1] yoWy)).get (by kernel_rfl)
theorem yFdy (g:Nat) (n:Nat):yzmy (E_z8z g) g ysfy 5 70 4 ymmy (ygVy g) n:=by intro m l ps; unfold ygVy; split; exact .inr fun R K=>(by kernel_rfl); exact .inl fun R K=>rfl
theorem yCby [Fuel]:ROk (E_z8z NN) (yDly NN) NN ysfy:=yAUy ymmy (ygVy NN) (by kernel_rfl) (cuts0 (fun _=>rfl) (by kernel_rfl)) (fun m l ps R K=>by unfold ygVy; split <;> (try unfold z8z_L3) <;> rfl) (yFdy NN)
theorem yJ9y (g:Nat):Same (yfzy (@yjsy g)) (ylMy (E_z8z g) (yDly g) Tryz.f119 yoWy 12 [0,1,2,3,4,5] [.asis] g):=by intro args; unfold yfzy; split; exact .inr fun R k=>(by kernel_rfl); exact .inl fun R k=>rfl
theorem yJ3y (g:Nat):Whole (yfzy (@z8z_ g)) (yfzy (@yjsy g)):=by
 intro args R k res h
 unfold yfzy at h
 split at h
 ·obtain ⟨p,hp,h⟩:=Option.bind_eq_some_iff.1 h
  exact ⟨p,hp,(yyJy (inj:=yf6y) yFJy (fun h=>(by cases h)) h)⟩
 ·cases h
theorem yKFy (g:Nat):yaWy (yfzy (@z8z_ g)):=by
 intro args R k
 unfold yfzy
 split
 ·unfold z8z_
  rw [Option.bind_assoc]
  exact congrArg (Option.bind _) (funext fun p=>(yx9y (inj:=yf6y) rfl))
 ·rfl
theorem yDoy [Fuel]:Ok 119 (yfzy (@z8z _)):=yKoy std .nil ⟨rfl,rfl,by kernel_rfl,rfl,rfl,rfl⟩ (yJ9y NN) (yJ3y NN) (yKFy NN) (cutsR (fun _=>rfl) .nil (.cons yCby .nil) (by kernel_rfl) (by kernel_rfl)) Tryz.func119 (by kernel_rfl) (by kernel_rfl)
abbrev yuYy:Type 1:=List G_Deed→List G_Contact→List (List UInt8)→List Int→List (G_net_own×Bool)→{R:Type}→(Int→Int→List G_Deed→List G_Contact→List (List UInt8)→List Int→List (G_net_own×Bool)→Option R)→Option R
structure C_z17z where
 N:Nat
 z33z:ywty
 z8z:T_z8z
def z17z_L3 (g:C_z17z):Nat→Int→List (Int×Int)→List (G_net_own×Bool)→List (Int×Int)→List G_Deed→List G_Contact→List (List UInt8)→List Int→{R:Type}→(Int→Int→List (G_net_own×Bool)→List G_Deed→List G_Contact→List (List UInt8)→List Int→Option R)→(List (G_net_own×Bool)→List G_Deed→List G_Contact→List (List UInt8)→List Int→Option R)→Option R
 | 0,_,_,_,_,_,_,_,_,_,_,_=>none
 | n + 1,v18,v19,v20,v21,v22,v23,v24,v25,_,e0,e1=>(bif (decide (v18≤99999)) then (bif (((ycgy v18 v19).getD 0) == 0) then (bif (((ycgy v18 v21).getD 0) == 0) then e0 v18 0 v20 v22 v23 v24 v25 else z17z_L3 g n (w64 (v18 + 1)) v19 v20 v21 v22 v23 v24 v25 e0 e1) else z17z_L3 g n (w64 (v18 + 1)) v19 v20 v21 v22 v23 v24 v25 e0 e1) else e1 v20 v22 v23 v24 v25)
def z17z_ (g:C_z17z) (a1:List G_Deed) (a2:List G_Contact) (a3:List (List UInt8)) (a4:List Int) (a5:List (G_net_own×Bool)) {R:Type} (k0:Int→Int→List G_Deed→List G_Contact→List (List UInt8)→List Int→List (G_net_own×Bool)→Option R):Option R :=
 (g.z33z a1 a2 a3 a4 a5 (fun r6 r7 r8 r9 r10 r11=>(g.z8z r7 r8 r9 r10 r11 (fun r12 r13 r14 r15 r16 r17=>(z17z_L3 g g.N 1 r6 r17 r12 r13 r14 r15 r16 (fun e26 e27 e28 e29 e30 e31 e32=>k0 e26 e27 e29 e30 e31 e32 e28) (fun e33 e34 e35 e36 e37=>k0 0 12 e34 e35 e36 e37 e33))))))
noncomputable def yeay [Fuel]:C_z17z:=⟨NN,@z33z _,@z8z _⟩
noncomputable def z17z [Fuel]:yuYy:=@z17z_ yeay
def yBuy (args:List (IV A)):Bool:=match args with | [.box [.arr 41 _,.arr 39 _,.arr 9 _,.arr 3 _,.mp 70 4 _]]=>true | _=>false
def yney (g:yuYy):Spec A:=fun args=>match args with | [.box [.arr 41 a1,.arr 39 a2,.arr 9 a3,.arr 3 a4,.mp 70 4 a5]]=>fun k=>g a1 a2 a3 a4 a5 (fun z0 z1 z2 z3 z4 z5 z6=>k (.tup [.d (.int .i64 z0),.d (.int .i64 z1)]) [.box [.arr 41 z2,.arr 39 z3,.arr 9 z4,.arr 3 z5,.mp 70 4 z6]]) | _=>fun _=>none
def ykRy:SSt:=mkSh 26 22 [(0,.ptr 0 0),(4,.mp 11),(5,.mp 17),(6,.int .i64)] [(0,.box [.own 41 18,.own 39 19,.own 9 20,.own 3 21,.mp 16]),(11,.mp 3 3),(16,.mp 70 4),(17,.mp 3 3),(18,.row 41),(19,.row 39),(20,.row 9),(21,.row 3)]
def yfxy (g:C_z17z) (n:Nat):LPT A:=fun ps=>match ps with | [.d (.int .i64 p1),.mp 3 3 p2,.mp 70 4 p3,.mp 3 3 p4,.d (.sl 41 p5),.d (.sl 39 p6),.d (.sl 9 p7),.d (.sl 3 p8)]=>fun K=>z17z_L3 g n p1 p2 p3 p4 p5 p6 p7 p8 (fun z0 z1 z2 z3 z4 z5 z6=>K .ret (mkSt 26 22 [(0,.ptr 0 0),(2,.d (.int .i64 z0)),(3,.d (.int .i64 z1))] [(0,some (.box [.own 41 18,.own 39 19,.own 9 20,.own 3 21,.mp 16])),(16,some (.mp 70 4 z2)),(18,some (.row 41 z3)),(19,some (.row 39 z4)),(20,some (.row 9 z5)),(21,some (.row 3 z6))])) (fun z0 z1 z2 z3 z4=>K (.exit 0) (mkSt 26 22 [(0,.ptr 0 0)] [(0,some (.box [.own 41 18,.own 39 19,.own 9 20,.own 3 21,.mp 16])),(16,some (.mp 70 4 z0)),(18,some (.row 41 z1)),(19,some (.row 39 z2)),(20,some (.row 9 z3)),(21,some (.row 3 z4))])) | _=>fun _=>none
noncomputable def ypxy (g:C_z17z):Env A:=mkE [(118,yn2y g.z33z),(119,yfzy g.z8z)] [(8,[6,7,8,9,10,11]),(10,[12,13,14,15,16,17])] [(3,⟨[0,4,5,6],[],[0,11,16,17],[(0,0,41,18),(0,1,39,19),(0,2,9,20),(0,3,3,21)],[],[],[]⟩)] [(3,⟨[0,2,3],[],[0,16,18,19,20,21],[],[],[],[]⟩)] [(3,yaiy ykRy (yfxy g g.N))] [] [] [] [] [0]
theorem yFDy [Fuel]:yamy (ypxy yeay).C:=ct_of (P:=Tryz.prog) (T:=T) (.cons yyBy (.cons yDoy .nil)) (by kernel_rfl)
noncomputable def yrgy:Code:=sub [1,1,0,1,0,0] yn0y
theorem yDyy (g:C_z17z) (n:Nat):yaoy (ypxy g) g.N yrgy ykRy (yfxy g) n:=by intro ps; unfold yfxy; split; exact .inr fun R K=>(by kernel_rfl); exact .inl fun R K=>rfl
theorem yAJy [Fuel]:yahy (ypxy yeay) NN yrgy:=yaky ykRy (yfxy yeay) (by kernel_rfl) yFDy (cuts0 (fun _=>rfl) (by kernel_rfl)) (fun ps R K=>by unfold yfxy; split <;> (try unfold z17z_L3) <;> rfl) (yDyy yeay)
theorem yGJy (g:C_z17z):Same (yney (@z17z_ g)) (abody (ypxy g) Tryz.f78 yn0y 22 [0,1,2,3,4,5] [.asis,.asis] g.N):=by intro args; unfold yney; split; exact .inr fun R k=>(by kernel_rfl); exact .inl fun R k=>rfl
theorem yG2y [Fuel]:Ok 78 (yney (@z17z _)):=yacy std (.cons yyBy (.cons yDoy .nil)) ⟨rfl,rfl,by kernel_rfl,rfl,rfl,rfl⟩ (yGJy yeay) (cutsL (fun _=>rfl) (.cons yAJy .nil) (by kernel_rfl)) Tryz.func78 (by kernel_rfl) (by kernel_rfl)
abbrev ykWy:Type 1:=List G_Deed→Int→{R:Type}→(Int→Int→Option R)→Option R
structure C_net_Next where
 N:Nat
 z53z:yjXy
 z17z:yuYy
 z65z:yvNy
def ymay (g:C_net_Next) (a1:List G_Deed) (a2:Int) {R:Type} (k0:Int→Int→Option R):Option R :=
 (g.z53z a1 a2 (fun r3=>(bif (r3 != 0) then k0 0 r3 else (g.z65z))) (fun r4 r5 r6 r7 r8 r9=>(bif (r9 != 0) then k0 0 r9 else (g.z17z r4 r5 r6 r7 r8 (fun r10 r11 r12 r13 r14 r15 r16=>k0 r10 r11)))))
noncomputable def yg6y [Fuel]:C_net_Next:=⟨NN,@z53z _,@z17z _,@z65z _⟩
noncomputable def net_Next [Fuel]:ykWy:=@ymay yg6y
def ygny (g:ykWy):Spec A:=fun args=>match args with | [.d (.sl 41 a1),.d (.int .i64 a2)]=>fun k=>g a1 a2 (fun z0 z1=>k (.tup [.d (.int .i64 z0),.d (.int .i64 z1)]) [.undef,.undef]) | _=>fun _=>none
noncomputable def yFCy:Code:=(Tryz.f39.body).getD .skip
noncomputable def yBly (g:C_net_Next):Env A:=mkE [(21,yf8y g.z53z),(78,orS yBuy (yney g.z17z) (ynXy g.z65z))] [(11,[0,1,2,3,4,5]),(18,[6,7,8,9,10])] [] [] [] [] [] [] [] []
theorem yxKy (g:C_net_Next):Same (ygny (@ymay g)) (abody (yBly g) Tryz.f39 yFCy 11 [] [.asis,.asis] g.N):=by intro args; unfold ygny; split; exact .inr fun R k=>(by kernel_rfl); exact .inl fun R k=>rfl
theorem yxJy [Fuel]:Ok 39 (ygny (@net_Next _)):=yacy std (.cons ymYy (.cons (ok_or yBuy yG2y yGKy) .nil)) ⟨rfl,rfl,by kernel_rfl,rfl,rfl,rfl⟩ (yxKy yg6y) (cuts0 (fun _=>rfl) (by kernel_rfl)) Tryz.func39 (by kernel_rfl) (by kernel_rfl)
end Go.Am
