/- The functions of the program as Lean functions, each shown to be what the code computes, part 5. No condition: lemmas for the claim. -/
import Derived.Test.YtfngnnmdgfkenaaGreatDoorF0
import Derived.Test.YtfngnnmdgfkenaaGreatDoorFSh
import Derived.Test.YtfngnnmdgfkenaaGreatDoorF1
import Derived.Test.YtfngnnmdgfkenaaGreatDoorF3
import Derived.Test.YtfngnnmdgfkenaaGreatDoorF4
set_option linter.unusedVariables false
set_option maxRecDepth 100000
namespace Go.Am
open Go Go.Proofs
abbrev yicy:Type 1:=List UInt8→{R:Type}→(Int→Option R)→Option R
structure C_R_baseAt where
 N:Nat
 z22z:ytpy
 R_plain:yjsy
 R_in:ys7y
 strings_ContainsAny:ybSy
def yvPy (g:C_R_baseAt) (a1:List UInt8) {R:Type} (k0:Int→Option R):Option R :=
 (g.z22z a1 [48,49,50,51,52,53,54,55,56,57] (fun r2=>(g.R_plain a1 3 10 (fun r3=>(bif (!r3) then k0 (-1) else (g.R_in r2 1 3 (fun r4=>(bif (!r4) then k0 (-1) else (g.R_in (w64 ((w64 ((a1.length:Int) - 1)) - r2)) 1 4 (fun r5=>(bif (!r5) then k0 (-1) else (bif (decide (0≤r2) && decide (r2≤(a1.length:Int))) then (g.strings_ContainsAny (a1.take (r2:Int).toNat) [97,98,99,100,101,102,103,104,105,106,107,108,109,110,111,112,113,114,115,116,117,118,119,120,121,122] (fun r6=>(bif (!r6) then k0 (-1) else k0 r2))) else none))))))))))))
noncomputable def yrXy [Fuel]:C_R_baseAt:=⟨NN,@z22z _,@R_plain _,@R_in _,@strings_ContainsAny _⟩
noncomputable def R_baseAt [Fuel]:yicy:=@yvPy yrXy
def yeky (g:yicy):Spec A:=fun args=>match args with | [.d (.str a1)]=>fun k=>g a1 (fun z0=>k (.d (.int .i64 z0)) [.undef]) | _=>fun _=>none
noncomputable def yI9y:Code:=(Tryz.f145.body).getD .skip
noncomputable def yEYy (g:C_R_baseAt):Env A:=mkE [(179,yksy g.z22z),(180,yfwy g.R_plain),(181,yj7y g.R_in),(182,ycyy g.strings_ContainsAny)] [] [] [] [] [] [] [] [] []
theorem yByy (g:C_R_baseAt):Same (yeky (@yvPy g)) (abody (yEYy g) Tryz.f145 yI9y 0 [] [.asis] g.N):=by intro args; unfold yeky; split; exact .inr fun R k=>(by kernel_rfl); exact .inl fun R k=>rfl
theorem yp2y [Fuel]:Ok 145 (yeky (@R_baseAt _)):=yaay std (.cons yD8y (.cons ysYy (.cons yEay (.cons yecy .nil)))) ⟨rfl,rfl,by kernel_rfl,rfl,rfl,rfl⟩ (yByy yrXy) (cuts0 (fun _=>rfl) (by kernel_rfl)) Tryz.func145 (by kernel_rfl) (by kernel_rfl)
abbrev yuFy:Type 1:=List UInt8→{R:Type}→(G_Parts→Option R)→Option R
structure C_z117z where
 N:Nat
 R_baseAt:yicy
def z117z_ (g:C_z117z) (a1:List UInt8) {R:Type} (k0:G_Parts→Option R):Option R :=
 (g.R_baseAt a1 (fun r2=>(bif (decide (0≤(w64 (r2 + 1))) && decide ((w64 (r2 + 1))≤(a1.length:Int))) then (bif (decide (0≤(w64 (r2 + 1))) && decide ((w64 (r2 + 1))≤(a1.length:Int))) then k0 (⟨a1,(a1.take ((w64 (r2 + 1)):Int).toNat),(a1.drop ((w64 (r2 + 1)):Int).toNat),0,[]⟩:G_Parts) else none) else none)))
noncomputable def yC1y [Fuel]:C_z117z:=⟨NN,@R_baseAt _⟩
noncomputable def z117z [Fuel]:yuFy:=@z117z_ yC1y
def yl3y (g:yuFy):Spec A:=fun args=>match args with | [.d (.str a1)]=>fun k=>g a1 (fun z0=>k (.agg [.d (.str z0.f_Base),.d (.str z0.f_Prefix),.d (.str z0.f_Suffix),.d (.int .i64 z0.f_Kind),.d (.str z0.f_Added)]) [.undef]) | _=>fun _=>none
noncomputable def yKJy:Code:=(Tryz.f144.body).getD .skip
noncomputable def yL1y (g:C_z117z):Env A:=mkE [(145,yeky g.R_baseAt)] [(2,[0])] [] [] [] [] [] [] [] []
theorem yLey (g:C_z117z):Same (yl3y (@z117z_ g)) (abody (yL1y g) Tryz.f144 yKJy 1 [] [.asis] g.N):=by intro args; unfold yl3y; split; exact .inr fun R k=>(by kernel_rfl); exact .inl fun R k=>rfl
theorem yIZy [Fuel]:Ok 144 (yl3y (@z117z _)):=yaay std (.cons yp2y .nil) ⟨rfl,rfl,by kernel_rfl,rfl,rfl,rfl⟩ (yLey yC1y) (cuts0 (fun _=>rfl) (by kernel_rfl)) Tryz.func144 (by kernel_rfl) (by kernel_rfl)
abbrev yosy:Type 1:=List UInt8→{R:Type}→(Bool→Option R)→Option R
structure C_R_begin where
 N:Nat
 R_plain:yjsy
def yAsy (g:C_R_begin) (a1:List UInt8) {R:Type} (k0:Bool→Option R):Option R :=
 (g.R_plain a1 1 4 (fun r2=>k0 r2))
noncomputable def ywny [Fuel]:C_R_begin:=⟨NN,@R_plain _⟩
noncomputable def R_begin [Fuel]:yosy:=@yAsy ywny
def yidy (g:yosy):Spec A:=fun args=>match args with | [.d (.str a1)]=>fun k=>g a1 (fun z0=>k (.d (.bool z0)) [.undef]) | _=>fun _=>none
noncomputable def yINy:Code:=(Tryz.f146.body).getD .skip
noncomputable def yGNy (g:C_R_begin):Env A:=mkE [(180,yfwy g.R_plain)] [] [] [] [] [] [] [] [] []
theorem yF5y (g:C_R_begin):Same (yidy (@yAsy g)) (abody (yGNy g) Tryz.f146 yINy 0 [] [.asis] g.N):=by intro args; unfold yidy; split; exact .inr fun R k=>(by kernel_rfl); exact .inl fun R k=>rfl
theorem yE9y [Fuel]:Ok 146 (yidy (@R_begin _)):=yaay std (.cons ysYy .nil) ⟨rfl,rfl,by kernel_rfl,rfl,rfl,rfl⟩ (yF5y ywny) (cuts0 (fun _=>rfl) (by kernel_rfl)) Tryz.func146 (by kernel_rfl) (by kernel_rfl)
abbrev ygxy:Type 1:=List UInt8→List UInt8→{R:Type}→(Int→Option R)→Option R
structure C_strings_Index where
 N:Nat
 stringslite_Index:yb8y
def ykdy (g:C_strings_Index) (a1 a2:List UInt8) {R:Type} (k0:Int→Option R):Option R :=
 (g.stringslite_Index a1 a2 (fun r3=>k0 r3))
noncomputable def yjiy [Fuel]:C_strings_Index:=⟨NN,@stringslite_Index _⟩
noncomputable def strings_Index [Fuel]:ygxy:=@ykdy yjiy
def ycZy (g:ygxy):Spec A:=fun args=>match args with | [.d (.str a1),.d (.str a2)]=>fun k=>g a1 a2 (fun z0=>k (.d (.int .i64 z0)) [.undef,.undef]) | _=>fun _=>none
noncomputable def yI7y:Code:=(Tryz.f183.body).getD .skip
noncomputable def ysAy (g:C_strings_Index):Env A:=mkE [(214,ycQy g.stringslite_Index)] [] [] [] [] [] [] [] [] []
theorem yqOy (g:C_strings_Index):Same (ycZy (@ykdy g)) (abody (ysAy g) Tryz.f183 yI7y 0 [] [.asis] g.N):=by intro args; unfold ycZy; split; exact .inr fun R k=>(by kernel_rfl); exact .inl fun R k=>rfl
theorem yqVy [Fuel]:Ok 183 (ycZy (@strings_Index _)):=yaay std (.cons yfey .nil) ⟨rfl,rfl,by kernel_rfl,rfl,rfl,rfl⟩ (yqOy yjiy) (cuts0 (fun _=>rfl) (by kernel_rfl)) Tryz.func183 (by kernel_rfl) (by kernel_rfl)
abbrev ydMy:Type 1:=List UInt8→List UInt8→{R:Type}→(Bool→Option R)→Option R
structure C_strings_Contains where
 N:Nat
 strings_Index:ygxy
def yh4y (g:C_strings_Contains) (a1 a2:List UInt8) {R:Type} (k0:Bool→Option R):Option R :=
 (g.strings_Index a1 a2 (fun r3=>k0 (decide (r3 ≥ 0))))
noncomputable def yhxy [Fuel]:C_strings_Contains:=⟨NN,@strings_Index _⟩
noncomputable def strings_Contains [Fuel]:ydMy:=@yh4y yhxy
def yb7y (g:ydMy):Spec A:=fun args=>match args with | [.d (.str a1),.d (.str a2)]=>fun k=>g a1 a2 (fun z0=>k (.d (.bool z0)) [.undef,.undef]) | _=>fun _=>none
noncomputable def yJqy:Code:=(Tryz.f147.body).getD .skip
noncomputable def ynpy (g:C_strings_Contains):Env A:=mkE [(183,ycZy g.strings_Index)] [] [] [] [] [] [] [] [] []
theorem yniy (g:C_strings_Contains):Same (yb7y (@yh4y g)) (abody (ynpy g) Tryz.f147 yJqy 0 [] [.asis] g.N):=by intro args; unfold yb7y; split; exact .inr fun R k=>(by kernel_rfl); exact .inl fun R k=>rfl
theorem ynjy [Fuel]:Ok 147 (yb7y (@strings_Contains _)):=yaay std (.cons yqVy .nil) ⟨rfl,rfl,by kernel_rfl,rfl,rfl,rfl⟩ (yniy yhxy) (cuts0 (fun _=>rfl) (by kernel_rfl)) Tryz.func147 (by kernel_rfl) (by kernel_rfl)
abbrev yjSy:Type 1:=List UInt8→{R:Type}→(G_Parts→Bool→Option R)→Option R
structure C_R_PartsOf where
 N:Nat
 z115z:ypsy
 z117z:yuFy
 R_baseAt:yicy
 R_begin:yosy
 strings_Contains:ydMy
def ysHy (g:C_R_PartsOf) (a1:List UInt8) {R:Type} (k0:G_Parts→Bool→Option R):Option R :=
 (g.z115z a1 [47] (fun r2 r3 r4=>(bif (decide ((a1.length:Int) > 14)) then k0 (⟨[],[],[],0,[]⟩:G_Parts) false else (bif (!r4) then (g.R_baseAt r2 (fun r5=>(bif (decide (r5 < 0)) then k0 (⟨[],[],[],0,[]⟩:G_Parts) false else (g.z117z r2 (fun r6=>k0 r6 true))))) else (g.R_baseAt r3 (fun r7=>(bif (decide (r7 ≥ 0)) then (g.R_begin r2 (fun r8=>(bif r8 then (g.z117z r3 (fun r9=>k0 (⟨r9.f_Base,r9.f_Prefix,r9.f_Suffix,1,r2⟩:G_Parts) true)) else (g.R_baseAt r2 (fun r10=>(bif (decide (r10 < 0)) then k0 (⟨[],[],[],0,[]⟩:G_Parts) false else (g.z117z r2 (fun r11=>(bif (r3 == [112]) then k0 (⟨r11.f_Base,r11.f_Prefix,r11.f_Suffix,3,r11.f_Added⟩:G_Parts) true else (bif (r3 == [109]) then k0 (⟨r11.f_Base,r11.f_Prefix,r11.f_Suffix,4,r11.f_Added⟩:G_Parts) true else (bif (r3 == [109,109]) then k0 (⟨r11.f_Base,r11.f_Prefix,r11.f_Suffix,5,r11.f_Added⟩:G_Parts) true else (bif (r3 == [97,109]) then k0 (⟨r11.f_Base,r11.f_Prefix,r11.f_Suffix,6,r11.f_Added⟩:G_Parts) true else (bif ((r3.length:Int) == 1) then (g.strings_Contains [48,49,50,51,52,53,54,55,56,57] r3 (fun r12=>(bif r12 then k0 (⟨r11.f_Base,r11.f_Prefix,r11.f_Suffix,2,r3⟩:G_Parts) true else (g.R_begin r3 (fun r13=>(bif r13 then k0 (⟨r11.f_Base,r11.f_Prefix,r11.f_Suffix,1,r3⟩:G_Parts) true else k0 (⟨[],[],[],0,[]⟩:G_Parts) false)))))) else (g.R_begin r3 (fun r14=>(bif r14 then k0 (⟨r11.f_Base,r11.f_Prefix,r11.f_Suffix,1,r3⟩:G_Parts) true else k0 (⟨[],[],[],0,[]⟩:G_Parts) false)))))))))))))))) else (g.R_baseAt r2 (fun r15=>(bif (decide (r15 < 0)) then k0 (⟨[],[],[],0,[]⟩:G_Parts) false else (g.z117z r2 (fun r16=>(bif (r3 == [112]) then k0 (⟨r16.f_Base,r16.f_Prefix,r16.f_Suffix,3,r16.f_Added⟩:G_Parts) true else (bif (r3 == [109]) then k0 (⟨r16.f_Base,r16.f_Prefix,r16.f_Suffix,4,r16.f_Added⟩:G_Parts) true else (bif (r3 == [109,109]) then k0 (⟨r16.f_Base,r16.f_Prefix,r16.f_Suffix,5,r16.f_Added⟩:G_Parts) true else (bif (r3 == [97,109]) then k0 (⟨r16.f_Base,r16.f_Prefix,r16.f_Suffix,6,r16.f_Added⟩:G_Parts) true else (bif ((r3.length:Int) == 1) then (g.strings_Contains [48,49,50,51,52,53,54,55,56,57] r3 (fun r17=>(bif r17 then k0 (⟨r16.f_Base,r16.f_Prefix,r16.f_Suffix,2,r3⟩:G_Parts) true else (g.R_begin r3 (fun r18=>(bif r18 then k0 (⟨r16.f_Base,r16.f_Prefix,r16.f_Suffix,1,r3⟩:G_Parts) true else k0 (⟨[],[],[],0,[]⟩:G_Parts) false)))))) else (g.R_begin r3 (fun r19=>(bif r19 then k0 (⟨r16.f_Base,r16.f_Prefix,r16.f_Suffix,1,r3⟩:G_Parts) true else k0 (⟨[],[],[],0,[]⟩:G_Parts) false))))))))))))))))))))
noncomputable def yp7y [Fuel]:C_R_PartsOf:=⟨NN,@z115z _,@z117z _,@R_baseAt _,@R_begin _,@strings_Contains _⟩
noncomputable def R_PartsOf [Fuel]:yjSy:=@ysHy yp7y
def yfBy (g:yjSy):Spec A:=fun args=>match args with | [.d (.str a1)]=>fun k=>g a1 (fun z0 z1=>k (.tup [.agg [.d (.str z0.f_Base),.d (.str z0.f_Prefix),.d (.str z0.f_Suffix),.d (.int .i64 z0.f_Kind),.d (.str z0.f_Added)],.d (.bool z1)]) [.undef]) | _=>fun _=>none
noncomputable def yLpy:Code:=(Tryz.f101.body).getD .skip
noncomputable def yB0y (g:C_R_PartsOf):Env A:=mkE [(143,yiTy g.z115z),(144,yl3y g.z117z),(145,yeky g.R_baseAt),(146,yidy g.R_begin),(147,yb7y g.strings_Contains)] [(2,[0]),(8,[1]),(9,[2])] [] [] [] [] [] [] [] []
theorem yA3y (g:C_R_PartsOf):Same (yfBy (@ysHy g)) (abody (yB0y g) Tryz.f101 yLpy 3 [] [.asis,.asis] g.N):=by intro args; unfold yfBy; split; exact .inr fun R k=>(by kernel_rfl); exact .inl fun R k=>rfl
theorem yygy [Fuel]:Ok 101 (yfBy (@R_PartsOf _)):=yaay std (.cons yyYy (.cons yIZy (.cons yp2y (.cons yE9y (.cons ynjy .nil))))) ⟨rfl,rfl,by kernel_rfl,rfl,rfl,rfl⟩ (yA3y yp7y) (cuts0 (fun _=>rfl) (by kernel_rfl)) Tryz.func101 (by kernel_rfl) (by kernel_rfl)
abbrev yqSy:Type 1:=List UInt8→{R:Type}→(Bool→Option R)→Option R
structure C_Q_Call where
 N:Nat
 R_PartsOf:yjSy
def yC0y (g:C_Q_Call) (a1:List UInt8) {R:Type} (k0:Bool→Option R):Option R :=
 (g.R_PartsOf a1 (fun r2 r3=>k0 r3))
noncomputable def yAuy [Fuel]:C_Q_Call:=⟨NN,@R_PartsOf _⟩
noncomputable def Q_Call [Fuel]:yqSy:=@yC0y yAuy
def yjoy (g:yqSy):Spec A:=fun args=>match args with | [.d (.str a1)]=>fun k=>g a1 (fun z0=>k (.d (.bool z0)) [.undef]) | _=>fun _=>none
noncomputable def yNYy:Code:=(Tryz.f59.body).getD .skip
noncomputable def yKpy (g:C_Q_Call):Env A:=mkE [(101,yfBy g.R_PartsOf)] [(3,[0])] [] [] [] [] [] [] [] []
theorem yGny (g:C_Q_Call):Same (yjoy (@yC0y g)) (abody (yKpy g) Tryz.f59 yNYy 1 [] [.asis] g.N):=by intro args; unfold yjoy; split; exact .inr fun R k=>(by kernel_rfl); exact .inl fun R k=>rfl
theorem yojy [Fuel]:Ok 59 (yjoy (@Q_Call _)):=yaay std (.cons yygy .nil) ⟨rfl,rfl,by kernel_rfl,rfl,rfl,rfl⟩ (yGny yAuy) (cuts0 (fun _=>rfl) (by kernel_rfl)) Tryz.func59 (by kernel_rfl) (by kernel_rfl)
abbrev yAny:Type 1:=List G_Spot→{R:Type}→(Int→Option R)→Option R
structure C_z69z where
 N:Nat
 z16z:ys2y
 Q_Moment:ylky
 Q_in:ysxy
 Q_Call:yqSy
def z69z_L4 (g:C_z69z):Nat→List G_Spot→List G_Spot→Int→Int→{R:Type}→(Int→Option R)→Option R→Option R
 | 0,_,_,_,_,_,_,_=>none
 | n + 1,v2,v3,v4,v5,_,e0,e1=>(bif (decide (v5 < v4)) then (get_ v3 v5 fun x13=>(g.Q_Moment x13.f_At (fun r14=>(bif (!r14) then e0 1 else (g.Q_in x13.f_Hertz 0 30000000000 (fun r15=>(bif (!r15) then e0 1 else (g.Q_Call x13.f_Call (fun r16=>(bif (!r16) then e0 3 else (g.Q_Call x13.f_By (fun r17=>(bif (!r17) then e0 3 else (bif (decide (v5 > 0)) then (get_ v2 (w64 (v5 - 1)) fun x18=>(g.z16z x18 x13 (fun r19=>(bif (decide (r19 ≥ 0)) then e0 7 else z69z_L4 g n v2 v3 v4 (w64 (v5 + 1)) e0 e1)))) else z69z_L4 g n v2 v3 v4 (w64 (v5 + 1)) e0 e1)))))))))))))) else e1)
def z69z_ (g:C_z69z) (a1:List G_Spot) {R:Type} (k0:Int→Option R):Option R :=
 (bif (decide ((a1.length:Int) > 2000)) then k0 2 else (z69z_L4 g g.N a1 a1 (a1.length:Int) 0 (fun e20=>k0 e20) (k0 0)))
noncomputable def yc3y [Fuel]:C_z69z:=⟨NN,@z16z _,@Q_Moment _,@Q_in _,@Q_Call _⟩
noncomputable def z69z [Fuel]:yAny:=@z69z_ yc3y
def ypPy (g:yAny):Spec A:=fun args=>match args with | [.d (.sl 45 a1)]=>fun k=>g a1 (fun z0=>k (.d (.int .i64 z0)) [.undef]) | _=>fun _=>none
def ymvy:SSt:=mkSh 51 1 [(0,.sl 45),(8,.sl 45),(9,.int .i64),(10,.int .i64)] []
def yfuy (g:C_z69z) (n:Nat):LPT A:=fun ps=>match ps with | [.d (.sl 45 p1),.d (.sl 45 p2),.d (.int .i64 p3),.d (.int .i64 p4)]=>fun K=>z69z_L4 g n p1 p2 p3 p4 (fun z0=>K .ret (mkSt 51 1 [(2,.d (.int .i64 z0))] [])) (K (.exit 0) (mkSt 51 1 [] [])) | _=>fun _=>none
noncomputable def yCxy:Code:=(Tryz.f33.body).getD .skip
noncomputable def yszy (g:C_z69z):Env A:=mkE [(56,ykQy g.z16z),(57,yhjy g.Q_Moment),(58,ykWy g.Q_in),(59,yjoy g.Q_Call)] [(4,[0])] [(4,⟨[0,8,9,10],[],[],[],[],[],[]⟩)] [(4,⟨[2],[],[],[],[],[],[]⟩)] [(4,yady ymvy (yfuy g g.N))] [] [] [] [] []
theorem yPAy [Fuel]:yahy (yszy yc3y).C:=ct_of (P:=Tryz.prog) (T:=T) (.cons ypdy (.cons yqwy (.cons yvgy (.cons yojy .nil)))) (by kernel_rfl)
noncomputable def yr6y:Code:=sub [1,1,0,1,0,0] yCxy
theorem yGzy (g:C_z69z) (n:Nat):yaiy (yszy g) g.N yr6y ymvy (yfuy g) n:=by intro ps; unfold yfuy; split; exact .inr fun R K=>(by kernel_rfl); exact .inl fun R K=>rfl
theorem yFoy [Fuel]:yaby (yszy yc3y) NN yr6y:=yacy ymvy (yfuy yc3y) (by kernel_rfl) yPAy (cuts0 (fun _=>rfl) (by kernel_rfl)) (fun ps R K=>by unfold yfuy; split <;> (try unfold z69z_L4) <;> rfl) (yGzy yc3y)
theorem yLNy (g:C_z69z):Same (ypPy (@z69z_ g)) (abody (yszy g) Tryz.f33 yCxy 1 [] [.asis] g.N):=by intro args; unfold ypPy; split; exact .inr fun R k=>(by kernel_rfl); exact .inl fun R k=>rfl
theorem yEby [Fuel]:Ok 33 (ypPy (@z69z _)):=yaay std (.cons ypdy (.cons yqwy (.cons yvgy (.cons yojy .nil)))) ⟨rfl,rfl,by kernel_rfl,rfl,rfl,rfl⟩ (yLNy yc3y) (cutsL (fun _=>rfl) (.cons yFoy .nil) (by kernel_rfl)) Tryz.func33 (by kernel_rfl) (by kernel_rfl)
abbrev yAyy:Type 1:=G_Stream→Int→{R:Type}→(List G_Spot→G_Stream→Option R)→Option R
structure C_z43z where
 N:Nat
 z63z:yz2y
 z69z:yAny
def z43z_L2 (g:C_z43z):Nat→Int→Int→G_Stream→{R:Type}→(G_Stream→List G_Spot→Option R)→(G_Stream→Option R)→Option R
 | 0,_,_,_,_,_,_=>none
 | n + 1,v3,v4,v5,_,e0,e1=>(bif (decide (v4 < 5)) then (g.z63z v5 v3 (fun r9 r10=>(g.z69z r9 (fun r11=>(bif (r11 == 0) then e0 r10 r9 else z43z_L2 g n v3 (w64 (v4 + 1)) r10 e0 e1))))) else e1 v5)
def z43z_ (g:C_z43z) (a1:G_Stream) (a2:Int) {R:Type} (k0:List G_Spot→G_Stream→Option R):Option R :=
 (z43z_L2 g g.N a2 0 a1 (fun e12 e13=>k0 e13 e12) (fun e14=>k0 [] e14))
noncomputable def yc5y [Fuel]:C_z43z:=⟨NN,@z63z _,@z69z _⟩
noncomputable def z43z [Fuel]:yAyy:=@z43z_ yc5y
def yoAy (g:yAyy):Spec A:=fun args=>match args with | [.box [.d (.sl 3 a1),.d (.int .i64 a2)],.d (.int .i64 a3)]=>fun k=>g ⟨a1,a2⟩ a3 (fun z0 z1=>k (.arr 45 z0) [.box [.d (.sl 3 z1.f_L),.d (.int .i64 z1.f_at)],.undef]) | _=>fun _=>none
def ymTy:SSt:=mkSh 16 2 [(0,.ptr 0 0),(1,.int .i64),(6,.int .i64)] [(0,.box [.sl 3,.int .i64])]
def yf7y (g:C_z43z) (n:Nat):LPT A:=fun ps=>match ps with | [.d (.int .i64 p1),.d (.int .i64 p2),.d (.sl 3 p3),.d (.int .i64 p4)]=>fun K=>z43z_L2 g n p1 p2 ⟨p3,p4⟩ (fun z0 z1=>K .ret (mkSt 16 2 [(0,.ptr 0 0),(4,.own 45 1)] [(0,some (.box [.d (.sl 3 z0.f_L),.d (.int .i64 z0.f_at)])),(1,some (.row 45 z1))])) (fun z0=>K (.exit 0) (mkSt 16 2 [(0,.ptr 0 0)] [(0,some (.box [.d (.sl 3 z0.f_L),.d (.int .i64 z0.f_at)]))])) | _=>fun _=>none
noncomputable def yH1y:Code:=(Tryz.f6.body).getD .skip
noncomputable def ysmy (g:C_z43z):Env A:=mkE [(32,yoYy g.z63z),(33,ypPy g.z69z)] [(10,[1])] [(2,⟨[0,1,6],[],[0],[],[],[],[]⟩)] [(2,⟨[0,4],[],[0,1],[],[],[],[]⟩)] [(2,yady ymTy (yf7y g g.N))] [] [] [] [] [0]
theorem yMXy [Fuel]:yahy (ysmy yc5y).C:=ct_of (P:=Tryz.prog) (T:=T) (.cons yCOy (.cons yEby .nil)) (by kernel_rfl)
noncomputable def ytky:Code:=sub [1,0,1,0,0] yH1y
theorem yHpy (g:C_z43z) (n:Nat):yaiy (ysmy g) g.N ytky ymTy (yf7y g) n:=by intro ps; unfold yf7y; split; exact .inr fun R K=>(by kernel_rfl); exact .inl fun R K=>rfl
theorem yENy [Fuel]:yaby (ysmy yc5y) NN ytky:=yacy ymTy (yf7y yc5y) (by kernel_rfl) yMXy (cuts0 (fun _=>rfl) (by kernel_rfl)) (fun ps R K=>by unfold yf7y; split <;> (try unfold z43z_L2) <;> rfl) (yHpy yc5y)
theorem yNby (g:C_z43z):Same (yoAy (@z43z_ g)) (abody (ysmy g) Tryz.f6 yH1y 2 [0] [.arr 45] g.N):=by intro args; unfold yoAy; split; exact .inr fun R k=>(by kernel_rfl); exact .inl fun R k=>rfl
theorem yOIy [Fuel]:Ok 6 (yoAy (@z43z _)):=yaay std (.cons yCOy (.cons yEby .nil)) ⟨rfl,rfl,by kernel_rfl,rfl,rfl,rfl⟩ (yNby yc5y) (cutsL (fun _=>rfl) (.cons yENy .nil) (by kernel_rfl)) Tryz.func6 (by kernel_rfl) (by kernel_rfl)
abbrev yxby:Type 1:=G_Stream→{R:Type}→(List G_Band→G_Stream→Option R)→Option R
structure C_z46z where
 N:Nat
 z74z:yhLy
def z46z_L3 (g:C_z46z):Nat→Int→Int→G_Stream→List G_Band→List G_Band→{R:Type}→(G_Stream→List G_Band→Option R)→Option R
 | 0,_,_,_,_,_,_,_=>none
 | n + 1,v2,v3,v4,v5,v6,_,e0=>(bif (decide (v3 < v2)) then (inr v5 v3 (at_ v5 v3 fun x10=>(g.z74z v4 8 (fun r11 r12=>(bif (!r11) then (bif (decide ((v6.length + [x10].length) * 32≤yagy)) then z46z_L3 g n v2 (w64 (v3 + 1)) r12 v5 (v6 ++ [x10]) e0 else none) else z46z_L3 g n v2 (w64 (v3 + 1)) r12 v5 v6 e0))))) else e0 v4 v6)
def z46z_ (g:C_z46z) (a1:G_Stream) {R:Type} (k0:List G_Band→G_Stream→Option R):Option R :=
 (z46z_L3 g g.N ([(⟨[98,49,54,48],1800000,2000000⟩:G_Band),(⟨[98,52,48],7000000,7300000⟩:G_Band),(⟨[98,51,48],7300000,10150000⟩:G_Band),(⟨[98,50,48],14000000,14350000⟩:G_Band)].length:Int) 0 a1 [(⟨[98,49,54,48],1800000,2000000⟩:G_Band),(⟨[98,52,48],7000000,7300000⟩:G_Band),(⟨[98,51,48],7300000,10150000⟩:G_Band),(⟨[98,50,48],14000000,14350000⟩:G_Band)] [] (fun e13 e14=>k0 e14 e13))
noncomputable def yfiy [Fuel]:C_z46z:=⟨NN,@z74z _⟩
noncomputable def z46z [Fuel]:yxby:=@z46z_ yfiy
def yo2y (g:yxby):Spec A:=fun args=>match args with | [.box [.d (.sl 3 a1),.d (.int .i64 a2)]]=>fun k=>g ⟨a1,a2⟩ (fun z0 z1=>k (.arr 62 z0) [.box [.d (.sl 3 z1.f_L),.d (.int .i64 z1.f_at)]]) | _=>fun _=>none
def ylUy:SSt:=mkSh 25 6 [(0,.ptr 0 0),(3,.own 62 2),(10,.own 62 1),(11,.int .i64),(12,.int .i64)] [(0,.box [.sl 3,.int .i64]),(1,.row 62),(2,.row 62)]
def yfoy (g:C_z46z) (n:Nat):LPT A:=fun ps=>match ps with | [.d (.int .i64 p1),.d (.int .i64 p2),.d (.sl 3 p3),.d (.int .i64 p4),.d (.sl 62 p5),.d (.sl 62 p6)]=>fun K=>z46z_L3 g n p1 p2 ⟨p3,p4⟩ p5 p6 (fun z0 z1=>K (.exit 0) (mkSt 25 6 [(0,.ptr 0 0),(3,.own 62 2)] [(0,some (.box [.d (.sl 3 z0.f_L),.d (.int .i64 z0.f_at)])),(2,some (.row 62 z1))])) | _=>fun _=>none
noncomputable def yGqy:Code:=(Tryz.f7.body).getD .skip
noncomputable def yrSy (g:C_z46z):Env A:=mkE [(21,yd3y g.z74z)] [(5,[3]),(10,[1]),(21,[4]),(22,[5])] [(3,⟨[0,3,10,11,12],[(3,62,2)],[0,1],[],[],[],[]⟩)] [(3,⟨[0,3],[],[0,2],[],[],[],[]⟩)] [(3,yady ylUy (yfoy g g.N))] [] [] [] [] [0]
theorem yM0y [Fuel]:yahy (yrSy yfiy).C:=ct_of (P:=Tryz.prog) (T:=T) (.cons ydky .nil) (by kernel_rfl)
noncomputable def yscy:Code:=sub [1,1,0,1,0,0] yGqy
theorem yIny (g:C_z46z) (n:Nat):yaiy (yrSy g) g.N yscy ylUy (yfoy g) n:=by intro ps; unfold yfoy; split; exact .inr fun R K=>(by kernel_rfl); exact .inl fun R K=>rfl
theorem yF3y [Fuel]:yaby (yrSy yfiy) NN yscy:=yacy ylUy (yfoy yfiy) (by kernel_rfl) yM0y (cuts0 (fun _=>rfl) (by kernel_rfl)) (fun ps R K=>by unfold yfoy; split <;> (try unfold z46z_L3) <;> rfl) (yIny yfiy)
theorem yQky (g:C_z46z):Same (yo2y (@z46z_ g)) (abody (yrSy g) Tryz.f7 yGqy 6 [0] [.arr 62] g.N):=by intro args; unfold yo2y; split; exact .inr fun R k=>(by kernel_rfl); exact .inl fun R k=>rfl
theorem yOJy [Fuel]:Ok 7 (yo2y (@z46z _)):=yaay std (.cons ydky .nil) ⟨rfl,rfl,by kernel_rfl,rfl,rfl,rfl⟩ (yQky yfiy) (cutsL (fun _=>rfl) (.cons yF3y .nil) (by kernel_rfl)) Tryz.func7 (by kernel_rfl) (by kernel_rfl)
abbrev ydqy:Type 1:=List UInt8→Int→{R:Type}→(Int→Option R)→Option R
def strings_IndexByte [Fuel]:ydqy:=@X_ixb
def yfay (g:ydqy):Spec A:=yk2y g
theorem ymyy [Fuel]:Ok 106 (yfay (@strings_IndexByte _)):=⟨ywMy (yHLy (Any.strings_IndexByte Tryz.lays137)),yBly,yaOy (fn:=Tryz.f106) Tryz.func106 (by kernel_rfl) (by kernel_rfl)⟩
abbrev ybhy:Type 1:=List UInt8→{R:Type}→(Bool→Option R)→Option R
structure C_kit_IsKey where
 N:Nat
 strings_IndexByte:ydqy
 strings_Trim:ydWy
def ysky (g:C_kit_IsKey) (a1:List UInt8) {R:Type} (k0:Bool→Option R):Option R :=
 (bif (!(a1 == [])) then (bif (decide ((a1.length:Int)≤40)) then (at_ a1 0 fun x2=>(g.strings_IndexByte [97,98,99,100,101,102,103,104,105,106,107,108,109,110,111,112,113,114,115,116,117,118,119,120,121,122] (x2.toNat:Int) (fun r3=>(bif (decide (r3 ≥ 0)) then (g.strings_Trim a1 [97,98,99,100,101,102,103,104,105,106,107,108,109,110,111,112,113,114,115,116,117,118,119,120,121,122,48,49,50,51,52,53,54,55,56,57,45,95] (fun r4=>k0 (r4 == []))) else k0 false)))) else k0 false) else k0 false)
noncomputable def yqmy [Fuel]:C_kit_IsKey:=⟨NN,@strings_IndexByte _,@strings_Trim _⟩
noncomputable def kit_IsKey [Fuel]:ybhy:=@ysky yqmy
def yaUy (g:ybhy):Spec A:=fun args=>match args with | [.d (.str a1)]=>fun k=>g a1 (fun z0=>k (.d (.bool z0)) [.undef]) | _=>fun _=>none
noncomputable def yMRy:Code:=(Tryz.f62.body).getD .skip
noncomputable def yBjy (g:C_kit_IsKey):Env A:=mkE [(106,yfay g.strings_IndexByte),(107,ygwy g.strings_Trim)] [] [] [] [] [] [] [] [] []
theorem yyby (g:C_kit_IsKey):Same (yaUy (@ysky g)) (abody (yBjy g) Tryz.f62 yMRy 0 [] [.asis] g.N):=by intro args; unfold yaUy; split; exact .inr fun R k=>(by kernel_rfl); exact .inl fun R k=>rfl
theorem yaDy [Fuel]:Ok 62 (yaUy (@kit_IsKey _)):=yaay std (.cons ymyy (.cons yjny .nil)) ⟨rfl,rfl,by kernel_rfl,rfl,rfl,rfl⟩ (yyby yqmy) (cuts0 (fun _=>rfl) (by kernel_rfl)) Tryz.func62 (by kernel_rfl) (by kernel_rfl)
abbrev ycmy:Type 1:=Int→Int→Int→{R:Type}→(Bool→Option R)→Option R
def z48z_ (g:Nat) (a1 a2 a3:Int) {R:Type} (k0:Bool→Option R):Option R :=
 (bif (decide (a1 < a2)) then k0 true else k0 (decide (a1 > a3)))
noncomputable def z48z [Fuel]:ycmy:=@z48z_ NN
def ybKy (g:ycmy):Spec A:=fun args=>match args with | [.d (.int .i64 a1),.d (.int .i64 a2),.d (.int .i64 a3)]=>fun k=>g a1 a2 a3 (fun z0=>k (.d (.bool z0)) [.undef,.undef,.undef]) | _=>fun _=>none
noncomputable def yOuy:Code:=(Tryz.f64.body).getD .skip
noncomputable def yRDy (g:Nat):Env A:=mkE [] [] [] [] [] [] [] [] [] []
theorem yP4y (g:Nat):Same (ybKy (@z48z_ g)) (abody (yRDy g) Tryz.f64 yOuy 0 [] [.asis] g):=by intro args; unfold ybKy; split; exact .inr fun R k=>(by kernel_rfl); exact .inl fun R k=>rfl
theorem ybHy [Fuel]:Ok 64 (ybKy (@z48z _)):=yaay std .nil ⟨rfl,rfl,by kernel_rfl,rfl,rfl,rfl⟩ (yP4y NN) (cuts0 (fun _=>rfl) (by kernel_rfl)) Tryz.func64 (by kernel_rfl) (by kernel_rfl)
abbrev ycBy:Type 1:=Int→{R:Type}→(Bool→Option R)→Option R
structure C_kit_IsMode where
 N:Nat
 z48z:ycmy
def yjYy (g:C_kit_IsMode) (a1:Int) {R:Type} (k0:Bool→Option R):Option R :=
 (g.z48z a1 1 3 (fun r2=>k0 (!r2)))
noncomputable def yiWy [Fuel]:C_kit_IsMode:=⟨NN,@z48z _⟩
noncomputable def kit_IsMode [Fuel]:ycBy:=@yjYy yiWy
def ybTy (g:ycBy):Spec A:=fun args=>match args with | [.d (.int .i64 a1)]=>fun k=>g a1 (fun z0=>k (.d (.bool z0)) [.undef]) | _=>fun _=>none
noncomputable def yPxy:Code:=(Tryz.f63.body).getD .skip
noncomputable def yzZy (g:C_kit_IsMode):Env A:=mkE [(64,ybKy g.z48z)] [] [] [] [] [] [] [] [] []
theorem yw2y (g:C_kit_IsMode):Same (ybTy (@yjYy g)) (abody (yzZy g) Tryz.f63 yPxy 0 [] [.asis] g.N):=by intro args; unfold ybTy; split; exact .inr fun R k=>(by kernel_rfl); exact .inl fun R k=>rfl
theorem yc4y [Fuel]:Ok 63 (ybTy (@kit_IsMode _)):=yaay std (.cons ybHy .nil) ⟨rfl,rfl,by kernel_rfl,rfl,rfl,rfl⟩ (yw2y yiWy) (cuts0 (fun _=>rfl) (by kernel_rfl)) Tryz.func63 (by kernel_rfl) (by kernel_rfl)
abbrev yxCy:Type 1:=List Int→{R:Type}→(Int→Option R)→Option R
structure C_z53z where
 N:Nat
 kit_IsMode:ycBy
def z53z_L4 (g:C_z53z):Nat→List Int→List Int→Int→Int→{R:Type}→(Int→Option R)→Option R→Option R
 | 0,_,_,_,_,_,_,_=>none
 | n + 1,v2,v3,v4,v5,_,e0,e1=>(bif (decide (v5 < v4)) then (get_ v3 v5 fun x9=>(g.kit_IsMode x9 (fun r10=>(bif (!r10) then e0 4 else (bif (decide (v5 > 0)) then (get_ v2 (w64 (v5 - 1)) fun x11=>(bif (decide (x9≤x11)) then e0 7 else z53z_L4 g n v2 v3 v4 (w64 (v5 + 1)) e0 e1)) else z53z_L4 g n v2 v3 v4 (w64 (v5 + 1)) e0 e1))))) else e1)
def z53z_ (g:C_z53z) (a1:List Int) {R:Type} (k0:Int→Option R):Option R :=
 (bif ((a1.length:Int) == 0) then k0 8 else (z53z_L4 g g.N a1 a1 (a1.length:Int) 0 (fun e12=>k0 e12) (k0 0)))
noncomputable def ydxy [Fuel]:C_z53z:=⟨NN,@kit_IsMode _⟩
noncomputable def z53z [Fuel]:yxCy:=@z53z_ ydxy
def ypey (g:yxCy):Spec A:=fun args=>match args with | [.d (.sl 3 a1)]=>fun k=>g a1 (fun z0=>k (.d (.int .i64 z0)) [.undef]) | _=>fun _=>none
def ymRy:SSt:=mkSh 30 0 [(0,.sl 3),(8,.sl 3),(9,.int .i64),(10,.int .i64)] []
def yf2y (g:C_z53z) (n:Nat):LPT A:=fun ps=>match ps with | [.d (.sl 3 p1),.d (.sl 3 p2),.d (.int .i64 p3),.d (.int .i64 p4)]=>fun K=>z53z_L4 g n p1 p2 p3 p4 (fun z0=>K .ret (mkSt 30 0 [(2,.d (.int .i64 z0))] [])) (K (.exit 0) (mkSt 30 0 [] [])) | _=>fun _=>none
noncomputable def yyiy:Code:=(Tryz.f102.body).getD .skip
noncomputable def ytKy (g:C_z53z):Env A:=mkE [(63,ybTy g.kit_IsMode)] [] [(4,⟨[0,8,9,10],[],[],[],[],[],[]⟩)] [(4,⟨[2],[],[],[],[],[],[]⟩)] [(4,yady ymRy (yf2y g g.N))] [] [] [] [] []
theorem yQqy [Fuel]:yahy (ytKy ydxy).C:=ct_of (P:=Tryz.prog) (T:=T) (.cons yc4y .nil) (by kernel_rfl)
noncomputable def ytdy:Code:=sub [1,1,0,1,0,0] yyiy
theorem yGHy (g:C_z53z) (n:Nat):yaiy (ytKy g) g.N ytdy ymRy (yf2y g) n:=by intro ps; unfold yf2y; split; exact .inr fun R K=>(by kernel_rfl); exact .inl fun R K=>rfl
theorem yE1y [Fuel]:yaby (ytKy ydxy) NN ytdy:=yacy ymRy (yf2y ydxy) (by kernel_rfl) yQqy (cuts0 (fun _=>rfl) (by kernel_rfl)) (fun ps R K=>by unfold yf2y; split <;> (try unfold z53z_L4) <;> rfl) (yGHy ydxy)
theorem yQhy (g:C_z53z):Same (ypey (@z53z_ g)) (abody (ytKy g) Tryz.f102 yyiy 0 [] [.asis] g.N):=by intro args; unfold ypey; split; exact .inr fun R k=>(by kernel_rfl); exact .inl fun R k=>rfl
theorem yDey [Fuel]:Ok 102 (ypey (@z53z _)):=yaay std (.cons yc4y .nil) ⟨rfl,rfl,by kernel_rfl,rfl,rfl,rfl⟩ (yQhy ydxy) (cutsL (fun _=>rfl) (.cons yE1y .nil) (by kernel_rfl)) Tryz.func102 (by kernel_rfl) (by kernel_rfl)
abbrev yggy:Type 1:=G_Window→{R:Type}→(Bool→Option R)→Option R
def yjIy (g:Nat) (a1:G_Window) {R:Type} (k0:Bool→Option R):Option R :=
 (bif (decide (a1.f_From ≥ 0)) then (bif (decide (a1.f_From < a1.f_To)) then k0 (decide (a1.f_To≤345686400000)) else k0 false) else k0 false)
noncomputable def kit_IsTime [Fuel]:yggy:=@yjIy NN
def yc9y (g:yggy):Spec A:=fun args=>match args with | [.agg [.d (.int .i64 a1),.d (.int .i64 a2)]]=>fun k=>g ⟨a1,a2⟩ (fun z0=>k (.d (.bool z0)) [.undef]) | _=>fun _=>none
noncomputable def yIPy:Code:=(Tryz.f103.body).getD .skip
noncomputable def yxgy (g:Nat):Env A:=mkE [] [(1,[0])] [] [] [] [] [] [] [] []
theorem ywSy (g:Nat):Same (yc9y (@yjIy g)) (abody (yxgy g) Tryz.f103 yIPy 1 [] [.asis] g):=by intro args; unfold yc9y; split; exact .inr fun R k=>(by kernel_rfl); exact .inl fun R k=>rfl
theorem yexy [Fuel]:Ok 103 (yc9y (@kit_IsTime _)):=yaay std .nil ⟨rfl,rfl,by kernel_rfl,rfl,rfl,rfl⟩ (ywSy NN) (cuts0 (fun _=>rfl) (by kernel_rfl)) Tryz.func103 (by kernel_rfl) (by kernel_rfl)
abbrev yaQy:Type 1:=List UInt8→List UInt8→{R:Type}→(Int→Option R)→Option R
def strings_Compare [Fuel]:yaQy:=@X_cmp
def yazy (g:yaQy):Spec A:=yk1y g
theorem yaYy [Fuel]:Ok 76 (yazy (@strings_Compare _)):=⟨ym0y (ywcy (Any.strings_Compare Tryz.lays106)),yqyy,yaOy (fn:=Tryz.f76) Tryz.func76 (by kernel_rfl) (by kernel_rfl)⟩
theorem ydry [Fuel]:OkD 76 (yazy (@strings_Compare _)):=⟨ym0y (ywcy (Any.strings_Compare Tryz.lays106)),yqyy,yaOy (fn:=Tryz.f76) Tryz.func76 (by kernel_rfl) (by kernel_rfl)⟩
abbrev yfgy:Type 1:=List Int→{R:Type}→(Int→Option R)→Option R
def z40z_L3 (g:Nat):Nat→Int→List Int→Int→Int→{R:Type}→(Int→Int→Option R)→(Int→Option R)→Option R
 | 0,_,_,_,_,_,_,_=>none
 | n + 1,v2,v3,v4,v5,_,e0,e1=>(bif (decide (v5 < v4)) then (get_ v3 v5 fun x7=>(bif (x7 != v2) then e0 x7 v2 else z40z_L3 g n v2 v3 v4 (w64 (v5 + 1)) e0 e1)) else e1 v2)
def z40z_ (g:Nat) (a1:List Int) {R:Type} (k0:Int→Option R):Option R :=
 (z40z_L3 g g 0 a1 (a1.length:Int) 0 (fun e8 e9=>k0 e8) (fun e10=>k0 e10))
noncomputable def z40z [Fuel]:yfgy:=@z40z_ NN
def ybGy (g:yfgy):Spec A:=fun args=>match args with | [.d (.sl 3 a1)]=>fun k=>g a1 (fun z0=>k (.d (.int .i64 z0)) [.undef]) | _=>fun _=>none
def ydUy:SSt:=mkSh 18 0 [(3,.int .i64),(6,.sl 3),(7,.int .i64),(8,.int .i64)] []
def ybNy (g:Nat) (n:Nat):LPT A:=fun ps=>match ps with | [.d (.int .i64 p1),.d (.sl 3 p2),.d (.int .i64 p3),.d (.int .i64 p4)]=>fun K=>z40z_L3 g n p1 p2 p3 p4 (fun z0 z1=>K .ret (mkSt 18 0 [(2,.d (.int .i64 z0)),(3,.d (.int .i64 z1))] [])) (fun z0=>K (.exit 0) (mkSt 18 0 [(3,.d (.int .i64 z0))] [])) | _=>fun _=>none
noncomputable def yvuy:Code:=(Tryz.f75.body).getD .skip
noncomputable def yt1y (g:Nat):Env A:=mkE [] [] [(3,⟨[3,6,7,8],[],[],[],[],[],[]⟩)] [(3,⟨[2,3],[],[],[],[],[],[]⟩)] [(3,yady ydUy (ybNy g g))] [] [] [] [] []
theorem yLEy [Fuel]:yahy (yt1y NN).C:=ct_of (P:=Tryz.prog) (T:=T) .nil (by kernel_rfl)
noncomputable def yh9y:Code:=sub [1,1,0,1,0,0] yvuy
theorem yIjy (g:Nat) (n:Nat):yaiy (yt1y g) g yh9y ydUy (ybNy g) n:=by intro ps; unfold ybNy; split; exact .inr fun R K=>(by kernel_rfl); exact .inl fun R K=>rfl
theorem yE8y [Fuel]:yaby (yt1y NN) NN yh9y:=yacy ydUy (ybNy NN) (by kernel_rfl) yLEy (cuts0 (fun _=>rfl) (by kernel_rfl)) (fun ps R K=>by unfold ybNy; split <;> (try unfold z40z_L3) <;> rfl) (yIjy NN)
theorem yNQy (g:Nat):Same (ybGy (@z40z_ g)) (abody (yt1y g) Tryz.f75 yvuy 0 [] [.asis] g):=by intro args; unfold ybGy; split; exact .inr fun R k=>(by kernel_rfl); exact .inl fun R k=>rfl
theorem yeVy [Fuel]:Ok 75 (ybGy (@z40z _)):=yaay std .nil ⟨rfl,rfl,by kernel_rfl,rfl,rfl,rfl⟩ (yNQy NN) (cutsL (fun _=>rfl) (.cons yE8y .nil) (by kernel_rfl)) Tryz.func75 (by kernel_rfl) (by kernel_rfl)
noncomputable def yoXy (g:Nat):Env A:=mkED [] [] [(3,⟨[3,6,7,8],[],[],[],[],[],[]⟩)] [(3,⟨[2,3],[],[],[],[],[],[]⟩)] [(3,yady ydUy (ybNy g g))] [] [] [] [] []
theorem yKFy [Fuel]:yahy (yoXy NN).C:=ct_of (P:=Tryz.prog) (T:=TD) .nil (by kernel_rfl)
theorem yEvy (g:Nat) (n:Nat):yaiy (yoXy g) g yh9y ydUy (ybNy g) n:=by intro ps; unfold ybNy; split; exact .inr fun R K=>(by kernel_rfl); exact .inl fun R K=>rfl
theorem yBBy [Fuel]:yaby (yoXy NN) NN yh9y:=yacy ydUy (ybNy NN) (by kernel_rfl) yKFy (cuts0 (fun _=>rfl) (by kernel_rfl)) (fun ps R K=>by unfold ybNy; split <;> (try unfold z40z_L3) <;> rfl) (yEvy NN)
theorem yJmy (g:Nat):Same (ybGy (@z40z_ g)) (abody (yoXy g) Tryz.f75 yvuy 0 [] [.asis] g):=by intro args; unfold ybGy; split; exact .inr fun R k=>(by kernel_rfl); exact .inl fun R k=>rfl
theorem yqRy [Fuel]:OkD 75 (ybGy (@z40z _)):=yaay stdD .nil ⟨rfl,rfl,by kernel_rfl,rfl,rfl,rfl⟩ (yJmy NN) (cutsL (fun _=>rfl) (.cons yBBy .nil) (by kernel_rfl)) Tryz.func75 (by kernel_rfl) (by kernel_rfl)
abbrev yxBy:Type 1:=G_Segment→G_Segment→{R:Type}→(Int→Option R)→Option R
structure C_z85z where
 N:Nat
 z29z:yfyy
 z40z:yfgy
 strings_Compare:yaQy
def z85z_ (g:C_z85z) (a1 a2:G_Segment) {R:Type} (k0:Int→Option R):Option R :=
 (g.strings_Compare a1.f_Class a2.f_Class (fun r3=>(g.z29z a1.f_Low a2.f_Low (fun r4=>(g.z29z a1.f_High a2.f_High (fun r5=>(g.z29z a1.f_Time.f_From a2.f_Time.f_From (fun r6=>(g.z40z [r3,r4,r5,r6] (fun r7=>k0 r7))))))))))
noncomputable def yyIy [Fuel]:C_z85z:=⟨NN,@z29z _,@z40z _,@strings_Compare _⟩
noncomputable def z85z [Fuel]:yxBy:=@z85z_ yyIy
def ypEy (g:yxBy):Spec A:=fun args=>match args with | [.agg [.d (.str a1),.d (.int .i64 a2),.d (.int .i64 a3),.d (.sl 3 a4),.d (.int .i64 a5),.d (.int .i64 a6)],.agg [.d (.str a7),.d (.int .i64 a8),.d (.int .i64 a9),.d (.sl 3 a10),.d (.int .i64 a11),.d (.int .i64 a12)]]=>fun k=>g ⟨a1,a2,a3,a4,⟨a5,a6⟩⟩ ⟨a7,a8,a9,a10,⟨a11,a12⟩⟩ (fun z0=>k (.d (.int .i64 z0)) [.undef,.undef]) | _=>fun _=>none
noncomputable def yI6y:Code:=(Tryz.f104.body).getD .skip
noncomputable def yRqy (g:C_z85z):Env A:=mkE [(52,ybFy g.z29z),(75,ybGy g.z40z),(76,yazy g.strings_Compare)] [(2,[0]),(3,[1]),(27,[2])] [] [] [] [] [] [] [] []
theorem yNEy (g:C_z85z):Same (ypEy (@z85z_ g)) (abody (yRqy g) Tryz.f104 yI6y 3 [] [.asis] g.N):=by intro args; unfold ypEy; split; exact .inr fun R k=>(by kernel_rfl); exact .inl fun R k=>rfl
theorem yCJy [Fuel]:Ok 104 (ypEy (@z85z _)):=yaay std (.cons ye2y (.cons yeVy (.cons yaYy .nil))) ⟨rfl,rfl,by kernel_rfl,rfl,rfl,rfl⟩ (yNEy yyIy) (cuts0 (fun _=>rfl) (by kernel_rfl)) Tryz.func104 (by kernel_rfl) (by kernel_rfl)
end Go.Am
