/- The functions of the program as Lean functions, each shown to be what the code computes, part 9. No condition: lemmas for the claim. -/
import Derived.Test.YtnlblmnoiepeaaaGreatDoorF0
import Derived.Test.YtnlblmnoiepeaaaGreatDoorFSh
import Derived.Test.YtnlblmnoiepeaaaGreatDoorF1
import Derived.Test.YtnlblmnoiepeaaaGreatDoorF4
import Derived.Test.YtnlblmnoiepeaaaGreatDoorF5
set_option linter.unusedVariables false
set_option maxRecDepth 100000
namespace Go.Am
open Go Go.Proofs
abbrev yvSy:Type 1:=List (List UInt8)→List (List UInt8)→{R:Type}→(Bool→Option R)→Option R
def z47z_L4 (g:Nat):Nat→List (List UInt8)→List (List UInt8)→Int→Int→{R:Type}→(Bool→Option R)→Option R→Option R
 | 0,_,_,_,_,_,_,_=>none
 | n + 1,v3,v4,v5,v6,_,e0,e1=>(bif (decide (v6 < v5)) then (get_ v3 v6 fun x9=>(get_ v4 v6 fun x10=>(bif (!(x9 == x10)) then e0 false else z47z_L4 g n v3 v4 v5 (w64 (v6 + 1)) e0 e1))) else e1)
def z47z_ (g:Nat) (a1 a2:List (List UInt8)) {R:Type} (k0:Bool→Option R):Option R :=
 (bif ((a1.length:Int) != (a2.length:Int)) then k0 false else (z47z_L4 g g a1 a2 (a1.length:Int) 0 (fun e11=>k0 e11) (k0 true)))
noncomputable def z47z [Fuel]:yvSy:=@z47z_ NN
def yn5y (g:yvSy):Spec A:=fun args=>match args with | [.d (.sl 9 a1),.d (.sl 9 a2)]=>fun k=>g a1 a2 (fun z0=>k (.d (.bool z0)) [.undef,.undef]) | _=>fun _=>none
def yljy:SSt:=mkSh 26 0 [(0,.sl 9),(1,.sl 9),(12,.int .i64),(13,.int .i64)] []
def ye8y (g:Nat) (n:Nat):LPT A:=fun ps=>match ps with | [.d (.sl 9 p1),.d (.sl 9 p2),.d (.int .i64 p3),.d (.int .i64 p4)]=>fun K=>z47z_L4 g n p1 p2 p3 p4 (fun z0=>K .ret (mkSt 26 0 [(4,.d (.bool z0))] [])) (K (.exit 0) (mkSt 26 0 [] [])) | _=>fun _=>none
noncomputable def yBby:Code:=(Tryz.f23.body).getD .skip
noncomputable def ysmy (g:Nat):Env A:=mkE [] [] [(4,⟨[0,1,12,13],[],[],[],[],[],[]⟩)] [(4,⟨[4],[],[],[],[],[],[]⟩)] [(4,yafy yljy (ye8y g g))] [] [] [] [] []
theorem yLOy [Fuel]:yahy (ysmy NN).C:=ct_of (P:=Tryz.prog) (T:=T) .nil (by kernel_rfl)
noncomputable def yspy:Code:=sub [1,1,0,1,0,0] yBby
theorem yERy (g:Nat) (n:Nat):yaky (ysmy g) g yspy yljy (ye8y g) n:=by intro ps; unfold ye8y; split; exact .inr fun R K=>(by kernel_rfl); exact .inl fun R K=>rfl
theorem yCfy [Fuel]:yacy (ysmy NN) NN yspy:=yaey yljy (ye8y NN) (by kernel_rfl) yLOy (cuts0 (fun _=>rfl) (by kernel_rfl)) (fun ps R K=>by unfold ye8y; split <;> (try unfold z47z_L4) <;> rfl) (yERy NN)
theorem yLjy (g:Nat):Same (yn5y (@z47z_ g)) (abody (ysmy g) Tryz.f23 yBby 0 [] [.asis] g):=by intro args; unfold yn5y; split; exact .inr fun R k=>(by kernel_rfl); exact .inl fun R k=>rfl
theorem yAEy [Fuel]:Ok 23 (yn5y (@z47z _)):=yaay std .nil ⟨rfl,rfl,by kernel_rfl,rfl,rfl,rfl⟩ (yLjy NN) (cutsL (fun _=>rfl) (.cons yCfy .nil) (by kernel_rfl)) Tryz.func23 (by kernel_rfl) (by kernel_rfl)
abbrev yiey:Type 1:=List UInt8→{R:Type}→(Bool→Option R)→Option R
structure C_kit_IsName where
 N:Nat
 kit_IsKey:ybry
def ypxy (g:C_kit_IsName) (a1:List UInt8) {R:Type} (k0:Bool→Option R):Option R :=
 (bif (a1 == []) then k0 true else (g.kit_IsKey a1 (fun r2=>k0 r2)))
noncomputable def ymMy [Fuel]:C_kit_IsName:=⟨NN,@kit_IsKey _⟩
noncomputable def kit_IsName [Fuel]:yiey:=@ypxy ymMy
def yeoy (g:yiey):Spec A:=fun args=>match args with | [.d (.str a1)]=>fun k=>g a1 (fun z0=>k (.d (.bool z0)) [.undef]) | _=>fun _=>none
noncomputable def yHCy:Code:=(Tryz.f120.body).getD .skip
noncomputable def ywky (g:C_kit_IsName):Env A:=mkE [(80,ya2y g.kit_IsKey)] [] [] [] [] [] [] [] [] []
theorem yvqy (g:C_kit_IsName):Same (yeoy (@ypxy g)) (abody (ywky g) Tryz.f120 yHCy 0 [] [.asis] g.N):=by intro args; unfold yeoy; split; exact .inr fun R k=>(by kernel_rfl); exact .inl fun R k=>rfl
theorem yvdy [Fuel]:Ok 120 (yeoy (@kit_IsName _)):=yaay std (.cons yaKy .nil) ⟨rfl,rfl,by kernel_rfl,rfl,rfl,rfl⟩ (yvqy ymMy) (cuts0 (fun _=>rfl) (by kernel_rfl)) Tryz.func120 (by kernel_rfl) (by kernel_rfl)
abbrev yrPy:Type 1:=G_Contact→{R:Type}→(Int→Option R)→Option R
structure C_z76z where
 N:Nat
 kit_IsMode:ycNy
 z45z:ycHy
 z62z:yhpy
 kit_IsKey:ybry
 call_Is:yhfy
 kit_IsName:yiey
def z76z_ (g:C_z76z) (a1:G_Contact) {R:Type} (k0:Int→Option R):Option R :=
 (g.z62z a1.f_At (fun r2=>(bif (!r2) then k0 1 else (g.kit_IsMode a1.f_Mode (fun r3=>(bif (!r3) then k0 4 else (g.kit_IsKey a1.f_Band (fun r4=>(bif (!r4) then k0 5 else (g.call_Is a1.f_Call (fun r5=>(bif (!r5) then k0 3 else (g.z45z a1.f_Sent 0 99999 (fun r6=>(bif r6 then k0 1 else (g.z45z a1.f_Heard 0 99999 (fun r7=>(bif r7 then k0 1 else (g.kit_IsName a1.f_Gave (fun r8=>(bif (!r8) then k0 5 else (g.kit_IsName a1.f_Got (fun r9=>(bif (!r9) then k0 5 else k0 0))))))))))))))))))))))))
noncomputable def yD9y [Fuel]:C_z76z:=⟨NN,@kit_IsMode _,@z45z _,@z62z _,@kit_IsKey _,@call_Is _,@kit_IsName _⟩
noncomputable def z76z [Fuel]:yrPy:=@z76z_ yD9y
def yjNy (g:yrPy):Spec A:=fun args=>match args with | [.agg [.d (.int .i64 a1),.d (.int .i64 a2),.d (.str a3),.d (.str a4),.d (.int .i64 a5),.d (.int .i64 a6),.d (.str a7),.d (.str a8)]]=>fun k=>g ⟨a1,a2,a3,a4,a5,a6,a7,a8⟩ (fun z0=>k (.d (.int .i64 z0)) [.undef]) | _=>fun _=>none
noncomputable def yMZy:Code:=(Tryz.f72.body).getD .skip
noncomputable def yOLy (g:C_z76z):Env A:=mkE [(33,yb0y g.kit_IsMode),(42,ybWy g.z45z),(74,ydKy g.z62z),(80,ya2y g.kit_IsKey),(118,ydPy g.call_Is),(120,yeoy g.kit_IsName)] [(1,[0])] [] [] [] [] [] [] [] []
theorem yMxy (g:C_z76z):Same (yjNy (@z76z_ g)) (abody (yOLy g) Tryz.f72 yMZy 1 [] [.asis] g.N):=by intro args; unfold yjNy; split; exact .inr fun R k=>(by kernel_rfl); exact .inl fun R k=>rfl
theorem ytEy [Fuel]:Ok 72 (yjNy (@z76z _)):=yaay std (.cons ycjy (.cons ybZy (.cons ygdy (.cons yaKy (.cons ydFy (.cons yvdy .nil)))))) ⟨rfl,rfl,by kernel_rfl,rfl,rfl,rfl⟩ (yMxy yD9y) (cuts0 (fun _=>rfl) (by kernel_rfl)) Tryz.func72 (by kernel_rfl) (by kernel_rfl)
abbrev yyKy:Type 1:=G_Contact→G_Contact→{R:Type}→(Int→Option R)→Option R
structure C_z61z where
 N:Nat
 strings_Compare:ybay
 z35z:yhay
 z25z:yhey
def z61z_ (g:C_z61z) (a1 a2:G_Contact) {R:Type} (k0:Int→Option R):Option R :=
 (g.z25z a1.f_At a2.f_At (fun r3=>(g.strings_Compare a1.f_Call a2.f_Call (fun r4=>(g.strings_Compare a1.f_Band a2.f_Band (fun r5=>(g.z25z a1.f_Mode a2.f_Mode (fun r6=>(g.z35z [r3,r4,r5,r6] (fun r7=>k0 r7))))))))))
noncomputable def yzby [Fuel]:C_z61z:=⟨NN,@strings_Compare _,@z35z _,@z25z _⟩
noncomputable def z61z [Fuel]:yyKy:=@z61z_ yzby
def yeKy (g:yyKy):Spec A:=fun args=>match args with | [.agg [.d (.int .i64 a1),.d (.int .i64 a2),.d (.str a3),.d (.str a4),.d (.int .i64 a5),.d (.int .i64 a6),.d (.str a7),.d (.str a8)],.agg [.d (.int .i64 a9),.d (.int .i64 a10),.d (.str a11),.d (.str a12),.d (.int .i64 a13),.d (.int .i64 a14),.d (.str a15),.d (.str a16)]]=>fun k=>g ⟨a1,a2,a3,a4,a5,a6,a7,a8⟩ ⟨a9,a10,a11,a12,a13,a14,a15,a16⟩ (fun z0=>k (.d (.int .i64 z0)) [.undef,.undef]) | _=>fun _=>none
noncomputable def yAQy:Code:=(Tryz.f73.body).getD .skip
noncomputable def yOKy (g:C_z61z):Env A:=mkE [(116,yaGy g.strings_Compare),(121,ybVy g.z35z),(122,ybYy g.z25z)] [(2,[0]),(3,[1]),(25,[2])] [] [] [] [] [] [] [] []
theorem yJjy (g:C_z61z):Same (yeKy (@z61z_ g)) (abody (yOKy g) Tryz.f73 yAQy 3 [] [.asis] g.N):=by intro args; unfold yeKy; split; exact .inr fun R k=>(by kernel_rfl); exact .inl fun R k=>rfl
theorem yBUy [Fuel]:Ok 73 (yeKy (@z61z _)):=yaay std (.cons ybiy (.cons ygcy (.cons ygfy .nil))) ⟨rfl,rfl,by kernel_rfl,rfl,rfl,rfl⟩ (yJjy yzby) (cuts0 (fun _=>rfl) (by kernel_rfl)) Tryz.func73 (by kernel_rfl) (by kernel_rfl)
noncomputable def yJzy (g:C_z61z):Env A:=mkED [(116,yaGy g.strings_Compare),(121,ybVy g.z35z),(122,ybYy g.z25z)] [(2,[0]),(3,[1]),(25,[2])] [] [] [] [] [] [] [] []
theorem yGey (g:C_z61z):Same (yeKy (@z61z_ g)) (abody (yJzy g) Tryz.f73 yAQy 3 [] [.asis] g.N):=by intro args; unfold yeKy; split; exact .inr fun R k=>(by kernel_rfl); exact .inl fun R k=>rfl
theorem yxFy [Fuel]:OkD 73 (yeKy (@z61z _)):=yaay stdD (.cons yf5y (.cons yxQy (.cons yxvy .nil))) ⟨rfl,rfl,by kernel_rfl,rfl,rfl,rfl⟩ (yGey yzby) (cuts0 (fun _=>rfl) (by kernel_rfl)) Tryz.func73 (by kernel_rfl) (by kernel_rfl)
abbrev yvVy:Type 1:=List G_Contact→{R:Type}→(Int→Option R)→Option R
structure C_z36z where
 N:Nat
 z76z:yrPy
 z61z:yyKy
def z36z_L4 (g:C_z36z):Nat→List G_Contact→List G_Contact→Int→Int→{R:Type}→(Int→Option R)→Option R→Option R
 | 0,_,_,_,_,_,_,_=>none
 | n + 1,v2,v3,v4,v5,_,e0,e1=>(bif (decide (v5 < v4)) then (get_ v3 v5 fun x10=>(g.z76z x10 (fun r11=>(bif (r11 != 0) then e0 r11 else (bif (decide (v5 > 0)) then (get_ v2 (w64 (v5 - 1)) fun x12=>(g.z61z x12 x10 (fun r13=>(bif (decide (r13 ≥ 0)) then e0 7 else z36z_L4 g n v2 v3 v4 (w64 (v5 + 1)) e0 e1)))) else z36z_L4 g n v2 v3 v4 (w64 (v5 + 1)) e0 e1))))) else e1)
def z36z_ (g:C_z36z) (a1:List G_Contact) {R:Type} (k0:Int→Option R):Option R :=
 (bif (decide ((a1.length:Int) > 2000)) then k0 2 else (z36z_L4 g g.N a1 a1 (a1.length:Int) 0 (fun e14=>k0 e14) (k0 0)))
noncomputable def ykky [Fuel]:C_z36z:=⟨NN,@z76z _,@z61z _⟩
noncomputable def z36z [Fuel]:yvVy:=@z36z_ ykky
def yoGy (g:yvVy):Spec A:=fun args=>match args with | [.d (.sl 38 a1)]=>fun k=>g a1 (fun z0=>k (.d (.int .i64 z0)) [.undef]) | _=>fun _=>none
def ykVy:SSt:=mkSh 34 1 [(0,.sl 38),(9,.sl 38),(10,.int .i64),(11,.int .i64)] []
def yfWy (g:C_z36z) (n:Nat):LPT A:=fun ps=>match ps with | [.d (.sl 38 p1),.d (.sl 38 p2),.d (.int .i64 p3),.d (.int .i64 p4)]=>fun K=>z36z_L4 g n p1 p2 p3 p4 (fun z0=>K .ret (mkSt 34 1 [(2,.d (.int .i64 z0))] [])) (K (.exit 0) (mkSt 34 1 [] [])) | _=>fun _=>none
noncomputable def ysly (g:C_z36z):Env A:=mkE [(72,yjNy g.z76z),(73,yeKy g.z61z)] [(4,[0])] [(4,⟨[0,9,10,11],[],[],[],[],[],[]⟩)] [(4,⟨[2],[],[],[],[],[],[]⟩)] [(4,yafy ykVy (yfWy g g.N))] [] [] [] [] []
theorem yM3y [Fuel]:yahy (ysly ykky).C:=ct_of (P:=Tryz.prog) (T:=T) (.cons ytEy (.cons yBUy .nil)) (by kernel_rfl)
noncomputable def ysLy:Code:=sub [1,1,0,1,0,0] yo1y
theorem yFHy (g:C_z36z) (n:Nat):yaky (ysly g) g.N ysLy ykVy (yfWy g) n:=by intro ps; unfold yfWy; split; exact .inr fun R K=>(by kernel_rfl); exact .inl fun R K=>rfl
theorem yCry [Fuel]:yacy (ysly ykky) NN ysLy:=yaey ykVy (yfWy ykky) (by kernel_rfl) yM3y (cuts0 (fun _=>rfl) (by kernel_rfl)) (fun ps R K=>by unfold yfWy; split <;> (try unfold z36z_L4) <;> rfl) (yFHy ykky)
theorem yJRy (g:C_z36z):Same (yoGy (@z36z_ g)) (abody (ysly g) Tryz.f32 yo1y 1 [] [.asis] g.N):=by intro args; unfold yoGy; split; exact .inr fun R k=>(by kernel_rfl); exact .inl fun R k=>rfl
theorem yJ4y [Fuel]:Ok 32 (yoGy (@z36z _)):=yaay std (.cons ytEy (.cons yBUy .nil)) ⟨rfl,rfl,by kernel_rfl,rfl,rfl,rfl⟩ (yJRy ykky) (cutsL (fun _=>rfl) (.cons yCry .nil) (by kernel_rfl)) Tryz.func32 (by kernel_rfl) (by kernel_rfl)
abbrev yjey:Type 1:=List G_Contact→{R:Type}→(List Int→Option R)→Option R
structure C_log_dupes where
 N:Nat
 z85z:ysOy
def ydry (g:C_log_dupes):Nat→List G_Contact→Int→Int→List (G_log_worked×Bool)→List Int→{R:Type}→(List Int→Option R)→Option R
 | 0,_,_,_,_,_,_,_=>none
 | n + 1,v2,v3,v4,v5,v6,_,e0=>(bif (decide (v4 < v3)) then (get_ v2 v4 fun x9=>(g.z85z x9.f_Call (fun r10=>(bif ((yb5y (⟨r10,x9.f_Band,x9.f_Mode⟩:G_log_worked) v5).getD false) then (bif (decide ((v6.length + [v4].length) * 8≤yaly)) then ydry g n v2 v3 (w64 (v4 + 1)) (ybGy (⟨r10,x9.f_Band,x9.f_Mode⟩:G_log_worked) true v5) (v6 ++ [v4]) e0 else none) else ydry g n v2 v3 (w64 (v4 + 1)) (ybGy (⟨r10,x9.f_Band,x9.f_Mode⟩:G_log_worked) true v5) v6 e0)))) else e0 v6)
def yq0y (g:C_log_dupes) (a1:List G_Contact) {R:Type} (k0:List Int→Option R):Option R :=
 (ydry g g.N a1 (a1.length:Int) 0 [] [] (fun e11=>k0 e11))
noncomputable def ydfy [Fuel]:C_log_dupes:=⟨NN,@z85z _⟩
noncomputable def log_dupes [Fuel]:yjey:=@yq0y ydfy
def ye6y (g:yjey):Spec A:=fun args=>match args with | [.d (.sl 38 a1)]=>fun k=>g a1 (fun z0=>k (.arr 3 z0) [.undef]) | _=>fun _=>none
def yfFy:SSt:=mkSh 35 6 [(3,.mp 0),(4,.own 3 1),(9,.sl 38),(10,.int .i64),(11,.int .i64)] [(0,.mp 140 4),(1,.row 3)]
def ycty (g:C_log_dupes) (n:Nat):LPT A:=fun ps=>match ps with | [.d (.sl 38 p1),.d (.int .i64 p2),.d (.int .i64 p3),.mp 140 4 p4,.d (.sl 3 p5)]=>fun K=>ydry g n p1 p2 p3 p4 p5 (fun z0=>K (.exit 0) (mkSt 35 6 [(4,.own 3 1)] [(1,some (.row 3 z0))])) | _=>fun _=>none
noncomputable def yAWy:Code:=(Tryz.f44.body).getD .skip
noncomputable def ygKy (g:C_log_dupes):Env A:=mkE [(35,yjPy g.z85z)] [(6,[2]),(7,[3]),(8,[0]),(29,[4]),(30,[5])] [(4,⟨[3,4,9,10,11],[(4,3,1)],[0],[],[],[],[]⟩)] [(4,⟨[4],[],[1],[],[],[],[]⟩)] [(4,yafy yfFy (ycty g g.N))] [] [] [] [] []
theorem ywQy [Fuel]:yahy (ygKy ydfy).C:=ct_of (P:=Tryz.prog) (T:=T) (.cons ykry .nil) (by kernel_rfl)
noncomputable def yiPy:Code:=sub [1,1,1,0,1,0,0] yAWy
theorem ytxy (g:C_log_dupes) (n:Nat):yaky (ygKy g) g.N yiPy yfFy (ycty g) n:=by intro ps; unfold ycty; split; exact .inr fun R K=>(by kernel_rfl); exact .inl fun R K=>rfl
theorem yrHy [Fuel]:yacy (ygKy ydfy) NN yiPy:=yaey yfFy (ycty ydfy) (by kernel_rfl) ywQy (cuts0 (fun _=>rfl) (by kernel_rfl)) (fun ps R K=>by unfold ycty; split <;> (try unfold ydry) <;> rfl) (ytxy ydfy)
theorem yxjy (g:C_log_dupes):Same (ye6y (@yq0y g)) (abody (ygKy g) Tryz.f44 yAWy 6 [] [.arr 3] g.N):=by intro args; unfold ye6y; split; exact .inr fun R k=>(by kernel_rfl); exact .inl fun R k=>rfl
theorem yway [Fuel]:Ok 44 (ye6y (@log_dupes _)):=yaay std (.cons ykry .nil) ⟨rfl,rfl,by kernel_rfl,rfl,rfl,rfl⟩ (yxjy ydfy) (cutsL (fun _=>rfl) (.cons yrHy .nil) (by kernel_rfl)) Tryz.func44 (by kernel_rfl) (by kernel_rfl)
abbrev yi1y:Type 1:=List G_Contact→{R:Type}→(List Int→Int→Option R)→Option R
structure C_log_Dupes where
 N:Nat
 z36z:yvVy
 log_dupes:yjey
def yrxy (g:C_log_Dupes) (a1:List G_Contact) {R:Type} (k0:List Int→Int→Option R):Option R :=
 (g.z36z a1 (fun r2=>(bif (r2 != 0) then k0 [] r2 else (g.log_dupes a1 (fun r3=>k0 r3 0)))))
noncomputable def ypgy [Fuel]:C_log_Dupes:=⟨NN,@z36z _,@log_dupes _⟩
noncomputable def log_Dupes [Fuel]:yi1y:=@yrxy ypgy
def yfQy (g:yi1y):Spec A:=fun args=>match args with | [.d (.sl 38 a1)]=>fun k=>g a1 (fun z0 z1=>k (.tup [.arr 3 z0,.d (.int .i64 z1)]) [.undef]) | _=>fun _=>none
noncomputable def yINy:Code:=(Tryz.f14.body).getD .skip
noncomputable def yz5y (g:C_log_Dupes):Env A:=mkE [(32,yoGy g.z36z),(44,ye6y g.log_dupes)] [(11,[0])] [] [] [] [] [] [] [] []
theorem yxqy (g:C_log_Dupes):Same (yfQy (@yrxy g)) (abody (yz5y g) Tryz.f14 yINy 1 [] [.arr 3,.asis] g.N):=by intro args; unfold yfQy; split; exact .inr fun R k=>(by kernel_rfl); exact .inl fun R k=>rfl
theorem yyPy [Fuel]:Ok 14 (yfQy (@log_Dupes _)):=yaay std (.cons yJ4y (.cons yway .nil)) ⟨rfl,rfl,by kernel_rfl,rfl,rfl,rfl⟩ (yxqy ypgy) (cuts0 (fun _=>rfl) (by kernel_rfl)) Tryz.func14 (by kernel_rfl) (by kernel_rfl)
abbrev ywqy:Type 1:=List Int→{R:Type}→(Int→Option R)→Option R
structure C_z41z where
 N:Nat
 kit_IsMode:ycNy
def z41z_L4 (g:C_z41z):Nat→List Int→List Int→Int→Int→{R:Type}→(Int→Option R)→Option R→Option R
 | 0,_,_,_,_,_,_,_=>none
 | n + 1,v2,v3,v4,v5,_,e0,e1=>(bif (decide (v5 < v4)) then (get_ v3 v5 fun x9=>(g.kit_IsMode x9 (fun r10=>(bif (!r10) then e0 4 else (bif (decide (v5 > 0)) then (get_ v2 (w64 (v5 - 1)) fun x11=>(bif (decide (x9≤x11)) then e0 7 else z41z_L4 g n v2 v3 v4 (w64 (v5 + 1)) e0 e1)) else z41z_L4 g n v2 v3 v4 (w64 (v5 + 1)) e0 e1))))) else e1)
def z41z_ (g:C_z41z) (a1:List Int) {R:Type} (k0:Int→Option R):Option R :=
 (bif ((a1.length:Int) == 0) then k0 8 else (z41z_L4 g g.N a1 a1 (a1.length:Int) 0 (fun e12=>k0 e12) (k0 0)))
noncomputable def ydty [Fuel]:C_z41z:=⟨NN,@kit_IsMode _⟩
noncomputable def z41z [Fuel]:ywqy:=@z41z_ ydty
def yoTy (g:ywqy):Spec A:=fun args=>match args with | [.d (.sl 3 a1)]=>fun k=>g a1 (fun z0=>k (.d (.int .i64 z0)) [.undef]) | _=>fun _=>none
def yliy:SSt:=mkSh 30 0 [(0,.sl 3),(8,.sl 3),(9,.int .i64),(10,.int .i64)] []
def yfty (g:C_z41z) (n:Nat):LPT A:=fun ps=>match ps with | [.d (.sl 3 p1),.d (.sl 3 p2),.d (.int .i64 p3),.d (.int .i64 p4)]=>fun K=>z41z_L4 g n p1 p2 p3 p4 (fun z0=>K .ret (mkSt 30 0 [(2,.d (.int .i64 z0))] [])) (K (.exit 0) (mkSt 30 0 [] [])) | _=>fun _=>none
noncomputable def yycy:Code:=(Tryz.f148.body).getD .skip
noncomputable def ysny (g:C_z41z):Env A:=mkE [(33,yb0y g.kit_IsMode)] [] [(4,⟨[0,8,9,10],[],[],[],[],[],[]⟩)] [(4,⟨[2],[],[],[],[],[],[]⟩)] [(4,yafy yliy (yfty g g.N))] [] [] [] [] []
theorem yMsy [Fuel]:yahy (ysny ydty).C:=ct_of (P:=Tryz.prog) (T:=T) (.cons ycjy .nil) (by kernel_rfl)
noncomputable def ysry:Code:=sub [1,1,0,1,0,0] yycy
theorem yFIy (g:C_z41z) (n:Nat):yaky (ysny g) g.N ysry yliy (yfty g) n:=by intro ps; unfold yfty; split; exact .inr fun R K=>(by kernel_rfl); exact .inl fun R K=>rfl
theorem yDmy [Fuel]:yacy (ysny ydty) NN ysry:=yaey yliy (yfty ydty) (by kernel_rfl) yMsy (cuts0 (fun _=>rfl) (by kernel_rfl)) (fun ps R K=>by unfold yfty; split <;> (try unfold z41z_L4) <;> rfl) (yFIy ydty)
theorem yLKy (g:C_z41z):Same (yoTy (@z41z_ g)) (abody (ysny g) Tryz.f148 yycy 0 [] [.asis] g.N):=by intro args; unfold yoTy; split; exact .inr fun R k=>(by kernel_rfl); exact .inl fun R k=>rfl
theorem yA6y [Fuel]:Ok 148 (yoTy (@z41z _)):=yaay std (.cons ycjy .nil) ⟨rfl,rfl,by kernel_rfl,rfl,rfl,rfl⟩ (yLKy ydty) (cutsL (fun _=>rfl) (.cons yDmy .nil) (by kernel_rfl)) Tryz.func148 (by kernel_rfl) (by kernel_rfl)
abbrev yiyy:Type 1:=G_Window→{R:Type}→(Bool→Option R)→Option R
def yjiy (g:Nat) (a1:G_Window) {R:Type} (k0:Bool→Option R):Option R :=
 (bif (decide (a1.f_From ≥ 0)) then (bif (decide (a1.f_From < a1.f_To)) then k0 (decide (a1.f_To≤345686400000)) else k0 false) else k0 false)
noncomputable def kit_IsTime [Fuel]:yiyy:=@yjiy NN
def yehy (g:yiyy):Spec A:=fun args=>match args with | [.agg [.d (.int .i64 a1),.d (.int .i64 a2)]]=>fun k=>g ⟨a1,a2⟩ (fun z0=>k (.d (.bool z0)) [.undef]) | _=>fun _=>none
noncomputable def yIBy:Code:=(Tryz.f149.body).getD .skip
noncomputable def ywPy (g:Nat):Env A:=mkE [] [(1,[0])] [] [] [] [] [] [] [] []
theorem yvcy (g:Nat):Same (yehy (@yjiy g)) (abody (ywPy g) Tryz.f149 yIBy 1 [] [.asis] g):=by intro args; unfold yehy; split; exact .inr fun R k=>(by kernel_rfl); exact .inl fun R k=>rfl
theorem ymly [Fuel]:Ok 149 (yehy (@kit_IsTime _)):=yaay std .nil ⟨rfl,rfl,by kernel_rfl,rfl,rfl,rfl⟩ (yvcy NN) (cuts0 (fun _=>rfl) (by kernel_rfl)) Tryz.func149 (by kernel_rfl) (by kernel_rfl)
abbrev yyGy:Type 1:=G_Segment→G_Segment→{R:Type}→(Int→Option R)→Option R
structure C_z66z where
 N:Nat
 strings_Compare:ybay
 z35z:yhay
 z25z:yhey
def z66z_ (g:C_z66z) (a1 a2:G_Segment) {R:Type} (k0:Int→Option R):Option R :=
 (g.strings_Compare a1.f_Class a2.f_Class (fun r3=>(g.z25z a1.f_Low a2.f_Low (fun r4=>(g.z25z a1.f_High a2.f_High (fun r5=>(g.z25z a1.f_Time.f_From a2.f_Time.f_From (fun r6=>(g.z35z [r3,r4,r5,r6] (fun r7=>k0 r7))))))))))
noncomputable def yxCy [Fuel]:C_z66z:=⟨NN,@strings_Compare _,@z35z _,@z25z _⟩
noncomputable def z66z [Fuel]:yyGy:=@z66z_ yxCy
def yoQy (g:yyGy):Spec A:=fun args=>match args with | [.agg [.d (.str a1),.d (.int .i64 a2),.d (.int .i64 a3),.d (.sl 3 a4),.d (.int .i64 a5),.d (.int .i64 a6)],.agg [.d (.str a7),.d (.int .i64 a8),.d (.int .i64 a9),.d (.sl 3 a10),.d (.int .i64 a11),.d (.int .i64 a12)]]=>fun k=>g ⟨a1,a2,a3,a4,⟨a5,a6⟩⟩ ⟨a7,a8,a9,a10,⟨a11,a12⟩⟩ (fun z0=>k (.d (.int .i64 z0)) [.undef,.undef]) | _=>fun _=>none
noncomputable def yH0y:Code:=(Tryz.f150.body).getD .skip
noncomputable def yNHy (g:C_z66z):Env A:=mkE [(116,yaGy g.strings_Compare),(121,ybVy g.z35z),(122,ybYy g.z25z)] [(2,[0]),(3,[1]),(27,[2])] [] [] [] [] [] [] [] []
theorem yKMy (g:C_z66z):Same (yoQy (@z66z_ g)) (abody (yNHy g) Tryz.f150 yH0y 3 [] [.asis] g.N):=by intro args; unfold yoQy; split; exact .inr fun R k=>(by kernel_rfl); exact .inl fun R k=>rfl
theorem yBXy [Fuel]:Ok 150 (yoQy (@z66z _)):=yaay std (.cons ybiy (.cons ygcy (.cons ygfy .nil))) ⟨rfl,rfl,by kernel_rfl,rfl,rfl,rfl⟩ (yKMy yxCy) (cuts0 (fun _=>rfl) (by kernel_rfl)) Tryz.func150 (by kernel_rfl) (by kernel_rfl)
abbrev yxey:Type 1:=List G_Segment→{R:Type}→(Int→Option R)→Option R
structure C_z31z where
 N:Nat
 kit_IsKey:ybry
 z41z:ywqy
 kit_IsTime:yiyy
 z66z:yyGy
def z31z_L4 (g:C_z31z):Nat→List G_Segment→List G_Segment→Int→Int→{R:Type}→(Int→Option R)→Option R→Option R
 | 0,_,_,_,_,_,_,_=>none
 | n + 1,v2,v3,v4,v5,_,e0,e1=>(bif (decide (v5 < v4)) then (get_ v3 v5 fun x12=>(g.kit_IsKey x12.f_Class (fun r13=>(bif (!r13) then e0 5 else (bif (decide (x12.f_Low < 0)) then e0 1 else (bif (decide (x12.f_Low ≥ x12.f_High)) then e0 1 else (bif (decide (x12.f_High > 30000000000)) then e0 1 else (g.z41z x12.f_Modes (fun r14=>(bif (r14 != 0) then e0 r14 else (g.kit_IsTime x12.f_Time (fun r15=>(bif (!r15) then e0 1 else (bif (decide (v5 > 0)) then (get_ v2 (w64 (v5 - 1)) fun x16=>(g.z66z x16 x12 (fun r17=>(bif (decide (r17 ≥ 0)) then e0 7 else z31z_L4 g n v2 v3 v4 (w64 (v5 + 1)) e0 e1)))) else z31z_L4 g n v2 v3 v4 (w64 (v5 + 1)) e0 e1)))))))))))))) else e1)
def z31z_ (g:C_z31z) (a1:List G_Segment) {R:Type} (k0:Int→Option R):Option R :=
 (bif (decide ((a1.length:Int) > 500)) then k0 2 else (z31z_L4 g g.N a1 a1 (a1.length:Int) 0 (fun e18=>k0 e18) (k0 0)))
noncomputable def ydqy [Fuel]:C_z31z:=⟨NN,@kit_IsKey _,@z41z _,@kit_IsTime _,@z66z _⟩
noncomputable def z31z [Fuel]:yxey:=@z31z_ ydqy
def yoPy (g:yxey):Spec A:=fun args=>match args with | [.d (.sl 109 a1)]=>fun k=>g a1 (fun z0=>k (.d (.int .i64 z0)) [.undef]) | _=>fun _=>none
def ykSy:SSt:=mkSh 58 1 [(0,.sl 109),(9,.sl 109),(10,.int .i64),(11,.int .i64)] []
def yfBy (g:C_z31z) (n:Nat):LPT A:=fun ps=>match ps with | [.d (.sl 109 p1),.d (.sl 109 p2),.d (.int .i64 p3),.d (.int .i64 p4)]=>fun K=>z31z_L4 g n p1 p2 p3 p4 (fun z0=>K .ret (mkSt 58 1 [(2,.d (.int .i64 z0))] [])) (K (.exit 0) (mkSt 58 1 [] [])) | _=>fun _=>none
noncomputable def yxJy:Code:=(Tryz.f106.body).getD .skip
noncomputable def yrLy (g:C_z31z):Env A:=mkE [(80,ya2y g.kit_IsKey),(148,yoTy g.z41z),(149,yehy g.kit_IsTime),(150,yoQy g.z66z)] [(4,[0])] [(4,⟨[0,9,10,11],[],[],[],[],[],[]⟩)] [(4,⟨[2],[],[],[],[],[],[]⟩)] [(4,yafy ykSy (yfBy g g.N))] [] [] [] [] []
theorem yKty [Fuel]:yahy (yrLy ydqy).C:=ct_of (P:=Tryz.prog) (T:=T) (.cons yaKy (.cons yA6y (.cons ymly (.cons yBXy .nil)))) (by kernel_rfl)
noncomputable def yqMy:Code:=sub [1,1,0,1,0,0] yxJy
theorem yFay (g:C_z31z) (n:Nat):yaky (yrLy g) g.N yqMy ykSy (yfBy g) n:=by intro ps; unfold yfBy; split; exact .inr fun R K=>(by kernel_rfl); exact .inl fun R K=>rfl
theorem yDjy [Fuel]:yacy (yrLy ydqy) NN yqMy:=yaey ykSy (yfBy ydqy) (by kernel_rfl) yKty (cuts0 (fun _=>rfl) (by kernel_rfl)) (fun ps R K=>by unfold yfBy; split <;> (try unfold z31z_L4) <;> rfl) (yFay ydqy)
theorem yJEy (g:C_z31z):Same (yoPy (@z31z_ g)) (abody (yrLy g) Tryz.f106 yxJy 1 [] [.asis] g.N):=by intro args; unfold yoPy; split; exact .inr fun R k=>(by kernel_rfl); exact .inl fun R k=>rfl
theorem yJxy [Fuel]:Ok 106 (yoPy (@z31z _)):=yaay std (.cons yaKy (.cons yA6y (.cons ymly (.cons yBXy .nil)))) ⟨rfl,rfl,by kernel_rfl,rfl,rfl,rfl⟩ (yJEy ydqy) (cutsL (fun _=>rfl) (.cons yDjy .nil) (by kernel_rfl)) Tryz.func106 (by kernel_rfl) (by kernel_rfl)
abbrev yjpy:Type 1:=Int→Int→{R:Type}→(G_Row→Option R)→Option R
def ysgy (g:Nat) (a1 a2:Int) {R:Type} (k0:G_Row→Option R):Option R :=
 k0 (⟨(w64 (a1 - (w64 (Int.tdiv a2 2)))),(w64 ((w64 (a1 - (w64 (Int.tdiv a2 2)))) + a2))⟩:G_Row)
noncomputable def band_used [Fuel]:yjpy:=@ysgy NN
def yeVy (g:yjpy):Spec A:=fun args=>match args with | [.d (.int .i64 a1),.d (.int .i64 a2)]=>fun k=>g a1 a2 (fun z0=>k (.agg [.d (.int .i64 z0.f_From),.d (.int .i64 z0.f_To)]) [.undef,.undef]) | _=>fun _=>none
noncomputable def yIhy:Code:=(Tryz.f107.body).getD .skip
noncomputable def yzGy (g:Nat):Env A:=mkE [] [(4,[0])] [] [] [] [] [] [] [] []
theorem yxHy (g:Nat):Same (yeVy (@ysgy g)) (abody (yzGy g) Tryz.f107 yIhy 1 [] [.asis] g):=by intro args; unfold yeVy; split; exact .inr fun R k=>(by kernel_rfl); exact .inl fun R k=>rfl
theorem ywZy [Fuel]:Ok 107 (yeVy (@band_used _)):=yaay std .nil ⟨rfl,rfl,by kernel_rfl,rfl,rfl,rfl⟩ (yxHy NN) (cuts0 (fun _=>rfl) (by kernel_rfl)) Tryz.func107 (by kernel_rfl) (by kernel_rfl)
abbrev ynry:Type 1:=G_Window→Int→{R:Type}→(Bool→Option R)→Option R
def yqAy (g:Nat) (a1:G_Window) (a2:Int) {R:Type} (k0:Bool→Option R):Option R :=
 (bif (decide (a1.f_From≤a2)) then k0 (decide (a2 < a1.f_To)) else k0 false)
noncomputable def kit_Has [Fuel]:ynry:=@yqAy NN
def yhFy (g:ynry):Spec A:=fun args=>match args with | [.agg [.d (.int .i64 a1),.d (.int .i64 a2)],.d (.int .i64 a3)]=>fun k=>g ⟨a1,a2⟩ a3 (fun z0=>k (.d (.bool z0)) [.undef,.undef]) | _=>fun _=>none
noncomputable def yGqy:Code:=(Tryz.f152.body).getD .skip
noncomputable def yEoy (g:Nat):Env A:=mkE [] [(2,[0])] [] [] [] [] [] [] [] []
theorem yCRy (g:Nat):Same (yhFy (@yqAy g)) (abody (yEoy g) Tryz.f152 yGqy 1 [] [.asis] g):=by intro args; unfold yhFy; split; exact .inr fun R k=>(by kernel_rfl); exact .inl fun R k=>rfl
theorem ysUy [Fuel]:Ok 152 (yhFy (@kit_Has _)):=yaay std .nil ⟨rfl,rfl,by kernel_rfl,rfl,rfl,rfl⟩ (yCRy NN) (cuts0 (fun _=>rfl) (by kernel_rfl)) Tryz.func152 (by kernel_rfl) (by kernel_rfl)
abbrev yvLy:Type 1:=List Int→Int→{R:Type}→(Int→Option R)→Option R
def z59z_L2 (g:Nat):Nat→List Int→Int→Int→Int→{R:Type}→(Int→Option R)→Option R→Option R
 | 0,_,_,_,_,_,_,_=>none
 | n + 1,v3,v4,v5,v6,_,e0,e1=>(bif (decide (v6 < v5)) then (get_ v3 v6 fun x8=>(bif (v4 == x8) then e0 v6 else z59z_L2 g n v3 v4 v5 (w64 (v6 + 1)) e0 e1)) else e1)
def z59z_ (g:Nat) (a1:List Int) (a2:Int) {R:Type} (k0:Int→Option R):Option R :=
 (z59z_L2 g g a1 a2 (a1.length:Int) 0 (fun e9=>k0 e9) (k0 (-1)))
noncomputable def z59z [Fuel]:yvLy:=@z59z_ NN
def yody (g:yvLy):Spec A:=fun args=>match args with | [.d (.sl 3 a1),.d (.int .i64 a2)]=>fun k=>g a1 a2 (fun z0=>k (.d (.int .i64 z0)) [.undef,.undef]) | _=>fun _=>none
def ykKy:SSt:=mkSh 19 0 [(0,.sl 3),(1,.int .i64),(7,.int .i64),(8,.int .i64)] []
def yeYy (g:Nat) (n:Nat):LPT A:=fun ps=>match ps with | [.d (.sl 3 p1),.d (.int .i64 p2),.d (.int .i64 p3),.d (.int .i64 p4)]=>fun K=>z59z_L2 g n p1 p2 p3 p4 (fun z0=>K .ret (mkSt 19 0 [(4,.d (.int .i64 z0))] [])) (K (.exit 0) (mkSt 19 0 [] [])) | _=>fun _=>none
noncomputable def yAVy:Code:=(Tryz.f45.body).getD .skip
noncomputable def ysSy (g:Nat):Env A:=mkE [] [] [(2,⟨[0,1,7,8],[],[],[],[],[],[]⟩)] [(2,⟨[4],[],[],[],[],[],[]⟩)] [(2,yafy ykKy (yeYy g g))] [] [] [] [] []
theorem yMQy [Fuel]:yahy (ysSy NN).C:=ct_of (P:=Tryz.prog) (T:=T) .nil (by kernel_rfl)
noncomputable def yq9y:Code:=sub [1,0,1,0,0] yAVy
theorem yFny (g:Nat) (n:Nat):yaky (ysSy g) g yq9y ykKy (yeYy g) n:=by intro ps; unfold yeYy; split; exact .inr fun R K=>(by kernel_rfl); exact .inl fun R K=>rfl
theorem yCHy [Fuel]:yacy (ysSy NN) NN yq9y:=yaey ykKy (yeYy NN) (by kernel_rfl) yMQy (cuts0 (fun _=>rfl) (by kernel_rfl)) (fun ps R K=>by unfold yeYy; split <;> (try unfold z59z_L2) <;> rfl) (yFny NN)
theorem yJty (g:Nat):Same (yody (@z59z_ g)) (abody (ysSy g) Tryz.f45 yAVy 0 [] [.asis] g):=by intro args; unfold yody; split; exact .inr fun R k=>(by kernel_rfl); exact .inl fun R k=>rfl
theorem yLly [Fuel]:Ok 45 (yody (@z59z _)):=yaay std .nil ⟨rfl,rfl,by kernel_rfl,rfl,rfl,rfl⟩ (yJty NN) (cutsL (fun _=>rfl) (.cons yCHy .nil) (by kernel_rfl)) Tryz.func45 (by kernel_rfl) (by kernel_rfl)
abbrev ywry:Type 1:=List Int→Int→{R:Type}→(Bool→Option R)→Option R
structure C_z67z where
 N:Nat
 z59z:yvLy
def z67z_ (g:C_z67z) (a1:List Int) (a2:Int) {R:Type} (k0:Bool→Option R):Option R :=
 (g.z59z a1 a2 (fun r3=>k0 (decide (r3 ≥ 0))))
noncomputable def yxhy [Fuel]:C_z67z:=⟨NN,@z59z _⟩
noncomputable def z67z [Fuel]:ywry:=@z67z_ yxhy
def youy (g:ywry):Spec A:=fun args=>match args with | [.d (.sl 3 a1),.d (.int .i64 a2)]=>fun k=>g a1 a2 (fun z0=>k (.d (.bool z0)) [.undef,.undef]) | _=>fun _=>none
noncomputable def yMLy:Code:=(Tryz.f15.body).getD .skip
noncomputable def yN5y (g:C_z67z):Env A:=mkE [(45,yody g.z59z)] [] [] [] [] [] [] [] [] []
theorem yJly (g:C_z67z):Same (youy (@z67z_ g)) (abody (yN5y g) Tryz.f15 yMLy 0 [] [.asis] g.N):=by intro args; unfold youy; split; exact .inr fun R k=>(by kernel_rfl); exact .inl fun R k=>rfl
theorem yA3y [Fuel]:Ok 15 (youy (@z67z _)):=yaay std (.cons yLly .nil) ⟨rfl,rfl,by kernel_rfl,rfl,rfl,rfl⟩ (yJly yxhy) (cuts0 (fun _=>rfl) (by kernel_rfl)) Tryz.func15 (by kernel_rfl) (by kernel_rfl)
abbrev yD6y:Type 1:=G_Row→G_Row→{R:Type}→(Int→Option R)→Option R
def z60z_ (g:Nat) (a1 a2:G_Row) {R:Type} (k0:Int→Option R):Option R :=
 k0 (w64 (a1.f_From - a2.f_From))
noncomputable def z60z [Fuel]:yD6y:=@z60z_ NN
def ygay (g:yD6y):Spec A:=fun args=>match args with | [.agg [.d (.int .i64 a1),.d (.int .i64 a2)],.agg [.d (.int .i64 a3),.d (.int .i64 a4)]]=>fun k=>g ⟨a1,a2⟩ ⟨a3,a4⟩ (fun z0=>k (.d (.int .i64 z0)) [.undef,.undef]) | _=>fun _=>none
noncomputable def yvHy:Code:=(Tryz.f190.body).getD .skip
noncomputable def yOay (g:Nat):Env A:=mkE [] [(2,[0]),(3,[1])] [] [] [] [] [] [] [] []
theorem yMiy (g:Nat):Same (ygay (@z60z_ g)) (abody (yOay g) Tryz.f190 yvHy 2 [] [.asis] g):=by intro args; unfold ygay; split; exact .inr fun R k=>(by kernel_rfl); exact .inl fun R k=>rfl
theorem ok_z60z [Fuel]:Ok 190 (ygay (@z60z _)):=yaay std .nil ⟨rfl,rfl,by kernel_rfl,rfl,rfl,rfl⟩ (yMiy NN) (cuts0 (fun _=>rfl) (by kernel_rfl)) Tryz.func190 (by kernel_rfl) (by kernel_rfl)
noncomputable def yLRy (g:Nat):Env A:=mkED [] [(2,[0]),(3,[1])] [] [] [] [] [] [] [] []
theorem yIcy (g:Nat):Same (ygay (@z60z_ g)) (abody (yLRy g) Tryz.f190 yvHy 2 [] [.asis] g):=by intro args; unfold ygay; split; exact .inr fun R k=>(by kernel_rfl); exact .inl fun R k=>rfl
theorem yw1y [Fuel]:OkD 190 (ygay (@z60z _)):=yaay stdD .nil ⟨rfl,rfl,by kernel_rfl,rfl,rfl,rfl⟩ (yIcy NN) (cuts0 (fun _=>rfl) (by kernel_rfl)) Tryz.func190 (by kernel_rfl) (by kernel_rfl)
abbrev yvzy:Type 1:=List G_Row→{R:Type}→(List G_Row→Option R)→Option R
noncomputable def z53z [Fuel]:yvzy:=@ybUy G_Row (@z60z _)
def yjOy (g:yvzy):Spec A:=fun args=>match args with | [.arr 165 a1,.fn 190 []]=>fun k=>g a1 (fun z=>k (.tup []) [.arr 165 z,.fn 190 []]) | _=>fun _=>none
theorem yAUy [Fuel] (xs:List (A 165)) (R:Type) (k:IV A→List (IV A)→Option R):yjOy (@z53z _) [.arr 165 xs,.fn 190 []] k = ybUy (α:=A 165) (@z60z _) xs (fun z=>k (.tup []) [.arr 165 z,.fn 190 []]):=by kernel_rfl
theorem yBuy [Fuel] (args:List (IV A)) (R:Type) (k:IV A→List (IV A)→Option R) (h:∀ xs:List (A 165),args ≠ [.arr 165 xs,.fn 190 []]):yjOy (@z53z _) args k = none:=by unfold yjOy; split; exact absurd rfl (h _); rfl
theorem yMay [Fuel] (x y:A 165) (R:Type) (k:Int→Option R):ynpy T (ygay (@z60z _)) 165 x y k = @z60z _ x y R k:=by kernel_rfl
theorem yLzy (x:G_Row):(yl7y x).all scal = true:=rfl
theorem yBjy [Fuel]:Ok 189 (yjOy (@z53z _)):=⟨yjky (tyOk Tryz.prog) (e:=165) Tryz.sortf189 Tryz.isAgg165 Tryz.sizeOf165 (fun x d hd=>List.all_eq_true.1 (yLzy x) d hd) yMay yw1y.fs yw1y.en yAUy yBuy,yp8y (e:=165) yAUy yBuy,yaOy (fn:=Tryz.f189) Tryz.func189 (by kernel_rfl) (by kernel_rfl)⟩
end Go.Am
