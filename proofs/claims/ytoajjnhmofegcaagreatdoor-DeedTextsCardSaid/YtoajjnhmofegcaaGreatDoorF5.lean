/- The functions of the program as Lean functions, each shown to be what the code computes, part 5. No condition: lemmas for the claim. -/
import Derived.Test.YtoajjnhmofegcaaGreatDoorF0
import Derived.Test.YtoajjnhmofegcaaGreatDoorFSh
import Derived.Test.YtoajjnhmofegcaaGreatDoorF1
import Derived.Test.YtoajjnhmofegcaaGreatDoorF2
import Derived.Test.YtoajjnhmofegcaaGreatDoorF3
import Derived.Test.YtoajjnhmofegcaaGreatDoorF4
set_option linter.unusedVariables false
set_option maxRecDepth 100000
namespace Go.Am
open Go Go.Proofs
abbrev yuXy:Type 1:=G_Stream→{R:Type}→(List UInt8→G_Stream→Option R)→Option R
structure C_z27z where
 N:Nat
 z38z:yjwy
 z33z:yp4y
 z45z:yjNy
 z54z:yvMy
 z24z:yvby
def z27z_L3 (g:C_z27z):Nat→List UInt8→Int→Int→G_Stream→{R:Type}→(List UInt8→G_Stream→Option R)→Option R
 | 0,_,_,_,_,_,_=>none
 | n + 1,v9,v10,v11,v12,_,e0=>(bif (decide (v11 < v10)) then (g.z54z v12 v9 [32,10,48,45,57,115,107] (fun r15 r16=>z27z_L3 g n r15 v10 (w64 (v11 + 1)) r16 e0)) else e0 v9 v12)
def z27z_ (g:C_z27z) (a1:G_Stream) {R:Type} (k0:List UInt8→G_Stream→Option R):Option R :=
 (g.z38z a1 0 4 (fun r2 r3=>(g.z24z r3 r2 (fun r4 r5=>(g.z33z r4 (fun r6=>(g.z45z r5 [0,0,1,2] (fun r7 r8=>(z27z_L3 g g.N r6 r7 0 r8 (fun e17 e18=>k0 e17 e18))))))))))
noncomputable def ycQy [Fuel]:C_z27z:=⟨NN,@z38z _,@z33z _,@z45z _,@z54z _,@z24z _⟩
noncomputable def z27z [Fuel]:yuXy:=@z27z_ ycQy
def yn1y (g:yuXy):Spec A:=fun args=>match args with | [.box [.d (.sl 3 a1),.d (.int .i64 a2)]]=>fun k=>g ⟨a1,a2⟩ (fun z0 z1=>k (.d (.str z0)) [.box [.d (.sl 3 z1.f_L),.d (.int .i64 z1.f_at)]]) | _=>fun _=>none
def yk5y:SSt:=mkSh 19 3 [(0,.ptr 0 0),(3,.str),(11,.int .i64),(12,.int .i64)] [(0,.box [.sl 3,.int .i64])]
def yfvy (g:C_z27z) (n:Nat):LPT A:=fun ps=>match ps with | [.d (.str p1),.d (.int .i64 p2),.d (.int .i64 p3),.d (.sl 3 p4),.d (.int .i64 p5)]=>fun K=>z27z_L3 g n p1 p2 p3 ⟨p4,p5⟩ (fun z0 z1=>K (.exit 0) (mkSt 19 3 [(0,.ptr 0 0),(3,.d (.str z0))] [(0,some (.box [.d (.sl 3 z1.f_L),.d (.int .i64 z1.f_at)]))])) | _=>fun _=>none
noncomputable def yx7y:Code:=(Tryz.f36.body).getD .skip
noncomputable def yqty (g:C_z27z):Env A:=mkE [(8,ygey g.z38z),(39,yjOy g.z33z),(44,ygdy g.z45z),(52,ynUy g.z54z),(106,ynxy g.z24z)] [(7,[1]),(10,[2])] [(3,⟨[0,3,11,12],[],[0],[],[],[],[]⟩)] [(3,⟨[0,3],[],[0],[],[],[],[]⟩)] [(3,yajy yk5y (yfvy g g.N))] [] [] [] [] [0]
theorem yGBy [Fuel]:yahy (yqty ycQy).C:=ct_of (P:=Tryz.prog) (T:=T) (.cons yhQy (.cons yrMy (.cons yhOy (.cons yyyy (.cons yyXy .nil))))) (by kernel_rfl)
noncomputable def yrby:Code:=sub [1,1,0,1,0,0] yx7y
theorem yCey (g:C_z27z) (n:Nat):yaCy (yqty g) g.N yrby yk5y (yfvy g) n:=by intro ps;unfold yfvy;split;exact .inr fun R K=>(by kernel_rfl);exact .inl fun R K=>rfl
theorem yy9y [Fuel]:yaiy (yqty ycQy) NN yrby:=yamy yk5y (yfvy ycQy) (by kernel_rfl) yGBy (cuts0 (fun _=>rfl) (by kernel_rfl)) (fun ps R K=>by unfold yfvy;split <;> (try unfold z27z_L3) <;> rfl) (yCey ycQy)
theorem yHxy (g:C_z27z):Same (yn1y (@z27z_ g)) (abody (yqty g) Tryz.f36 yx7y 3 [0] [.asis] g.N):=by intro args;unfold yn1y;split;exact .inr fun R k=>(by kernel_rfl);exact .inl fun R k=>rfl
theorem yFUy [Fuel]:Ok 36 (yn1y (@z27z _)):=yacy std (.cons yhQy (.cons yrMy (.cons yhOy (.cons yyyy (.cons yyXy .nil))))) ⟨rfl,rfl,by kernel_rfl,rfl,rfl,rfl⟩ (yHxy ycQy) (cutsL (fun _=>rfl) (.cons yy9y .nil) (by kernel_rfl)) Tryz.func36 (by kernel_rfl) (by kernel_rfl)
abbrev ydoy:Type 1:=List UInt8→{R:Type}→(Bool→Option R)→Option R
structure C_kit_IsKey where
 N:Nat
 strings_IndexByte:ycqy
 strings_Trim:ycKy
def yhIy (g:C_kit_IsKey) (a1:List UInt8) {R:Type} (k0:Bool→Option R):Option R :=
 (bif (!(a1 == [])) then (bif (decide ((a1.length:Int)≤40)) then (at_ a1 0 fun x2=>(g.strings_IndexByte [97,98,99,100,101,102,103,104,105,106,107,108,109,110,111,112,113,114,115,116,117,118,119,120,121,122] (x2.toNat:Int) (fun r3=>(bif (decide (r3 ≥ 0)) then (g.strings_Trim a1 [97,98,99,100,101,102,103,104,105,106,107,108,109,110,111,112,113,114,115,116,117,118,119,120,121,122,48,49,50,51,52,53,54,55,56,57,45,95] (fun r4=>k0 (r4 == []))) else k0 false)))) else k0 false) else k0 false)
noncomputable def ydry [Fuel]:C_kit_IsKey:=⟨NN,@strings_IndexByte _,@strings_Trim _⟩
noncomputable def kit_IsKey [Fuel]:ydoy:=@yhIy ydry
def ycly (g:ydoy):Spec A:=fun args=>match args with | [.d (.str a1)]=>fun k=>g a1 (fun z0=>k (.d (.bool z0)) [.undef]) | _=>fun _=>none
noncomputable def yEwy:Code:=(Tryz.f137.body).getD .skip
noncomputable def ywpy (g:C_kit_IsKey):Env A:=mkE [(178,yc7y g.strings_IndexByte),(179,ydzy g.strings_Trim)] [] [] [] [] [] [] [] [] []
theorem ytvy (g:C_kit_IsKey):Same (ycly (@yhIy g)) (abody (ywpy g) Tryz.f137 yEwy 0 [] [.asis] g.N):=by intro args;unfold ycly;split;exact .inr fun R k=>(by kernel_rfl);exact .inl fun R k=>rfl
theorem yc4y [Fuel]:Ok 137 (ycly (@kit_IsKey _)):=yacy std (.cons ydcy (.cons yfxy .nil)) ⟨rfl,rfl,by kernel_rfl,rfl,rfl,rfl⟩ (ytvy ydry) (cuts0 (fun _=>rfl) (by kernel_rfl)) Tryz.func137 (by kernel_rfl) (by kernel_rfl)
abbrev yiyy:Type 1:=Int→Int→Int→{R:Type}→(Bool→Option R)→Option R
def z39z_ (g:Nat) (a1 a2 a3:Int) {R:Type} (k0:Bool→Option R):Option R :=
 (bif (decide (a1 < a2)) then k0 true else k0 (decide (a1 > a3)))
noncomputable def z39z [Fuel]:yiyy:=@z39z_ NN
def ye7y (g:yiyy):Spec A:=fun args=>match args with | [.d (.int .i64 a1),.d (.int .i64 a2),.d (.int .i64 a3)]=>fun k=>g a1 a2 a3 (fun z0=>k (.d (.bool z0)) [.undef,.undef,.undef]) | _=>fun _=>none
noncomputable def yC8y:Code:=(Tryz.f134.body).getD .skip
noncomputable def yIly (g:Nat):Env A:=mkE [] [] [] [] [] [] [] [] [] []
theorem yHty (g:Nat):Same (ye7y (@z39z_ g)) (abody (yIly g) Tryz.f134 yC8y 0 [] [.asis] g):=by intro args;unfold ye7y;split;exact .inr fun R k=>(by kernel_rfl);exact .inl fun R k=>rfl
theorem ykky [Fuel]:Ok 134 (ye7y (@z39z _)):=yacy std .nil ⟨rfl,rfl,by kernel_rfl,rfl,rfl,rfl⟩ (yHty NN) (cuts0 (fun _=>rfl) (by kernel_rfl)) Tryz.func134 (by kernel_rfl) (by kernel_rfl)
abbrev ymny:Type 1:=Int→{R:Type}→(Bool→Option R)→Option R
structure C_z55z where
 N:Nat
 z39z:yiyy
def z55z_ (g:C_z55z) (a1:Int) {R:Type} (k0:Bool→Option R):Option R :=
 (g.z39z a1 0 345686399999 (fun r2=>k0 (!r2)))
noncomputable def yt7y [Fuel]:C_z55z:=⟨NN,@z39z _⟩
noncomputable def z55z [Fuel]:ymny:=@z55z_ yt7y
def yhTy (g:ymny):Spec A:=fun args=>match args with | [.d (.int .i64 a1)]=>fun k=>g a1 (fun z0=>k (.d (.bool z0)) [.undef]) | _=>fun _=>none
noncomputable def yDty:Code:=(Tryz.f133.body).getD .skip
noncomputable def yIsy (g:C_z55z):Env A:=mkE [(134,ye7y g.z39z)] [] [] [] [] [] [] [] [] []
theorem yG5y (g:C_z55z):Same (yhTy (@z55z_ g)) (abody (yIsy g) Tryz.f133 yDty 0 [] [.asis] g.N):=by intro args;unfold yhTy;split;exact .inr fun R k=>(by kernel_rfl);exact .inl fun R k=>rfl
theorem yrzy [Fuel]:Ok 133 (yhTy (@z55z _)):=yacy std (.cons ykky .nil) ⟨rfl,rfl,by kernel_rfl,rfl,rfl,rfl⟩ (yG5y yt7y) (cuts0 (fun _=>rfl) (by kernel_rfl)) Tryz.func133 (by kernel_rfl) (by kernel_rfl)
abbrev yh7y:Type 1:=Int→{R:Type}→(Bool→Option R)→Option R
structure C_kit_IsMode where
 N:Nat
 z39z:yiyy
def yjhy (g:C_kit_IsMode) (a1:Int) {R:Type} (k0:Bool→Option R):Option R :=
 (g.z39z a1 1 3 (fun r2=>k0 (!r2)))
noncomputable def yiuy [Fuel]:C_kit_IsMode:=⟨NN,@z39z _⟩
noncomputable def kit_IsMode [Fuel]:yh7y:=@yjhy yiuy
def yeHy (g:yh7y):Spec A:=fun args=>match args with | [.d (.int .i64 a1)]=>fun k=>g a1 (fun z0=>k (.d (.bool z0)) [.undef]) | _=>fun _=>none
noncomputable def yEFy:Code:=(Tryz.f135.body).getD .skip
noncomputable def ywby (g:C_kit_IsMode):Env A:=mkE [(134,ye7y g.z39z)] [] [] [] [] [] [] [] [] []
theorem ys4y (g:C_kit_IsMode):Same (yeHy (@yjhy g)) (abody (ywby g) Tryz.f135 yEFy 0 [] [.asis] g.N):=by intro args;unfold yeHy;split;exact .inr fun R k=>(by kernel_rfl);exact .inl fun R k=>rfl
theorem ysPy [Fuel]:Ok 135 (yeHy (@kit_IsMode _)):=yacy std (.cons ykky .nil) ⟨rfl,rfl,by kernel_rfl,rfl,rfl,rfl⟩ (ys4y yiuy) (cuts0 (fun _=>rfl) (by kernel_rfl)) Tryz.func135 (by kernel_rfl) (by kernel_rfl)
abbrev ytWy:Type 1:=Int→{R:Type}→(Bool→Option R)→Option R
def z83z_ (g:Nat) (a1:Int) {R:Type} (k0:Bool→Option R):Option R :=
 (bif (decide (a1 ≥ 97)) then k0 (decide (a1≤122)) else k0 false)
noncomputable def z83z [Fuel]:ytWy:=@z83z_ NN
def ynly (g:ytWy):Spec A:=fun args=>match args with | [.d (.int .u8 a1)]=>fun k=>g a1 (fun z0=>k (.d (.bool z0)) [.undef]) | _=>fun _=>none
noncomputable def yCyy:Code:=(Tryz.f303.body).getD .skip
noncomputable def yIJy (g:Nat):Env A:=mkE [] [] [] [] [] [] [] [] [] []
theorem yFEy (g:Nat):Same (ynly (@z83z_ g)) (abody (yIJy g) Tryz.f303 yCyy 0 [] [.asis] g):=by intro args;unfold ynly;split;exact .inr fun R k=>(by kernel_rfl);exact .inl fun R k=>rfl
theorem yxTy [Fuel]:Ok 303 (ynly (@z83z _)):=yacy std .nil ⟨rfl,rfl,by kernel_rfl,rfl,rfl,rfl⟩ (yFEy NN) (cuts0 (fun _=>rfl) (by kernel_rfl)) Tryz.func303 (by kernel_rfl) (by kernel_rfl)
abbrev yqTy:Type 1:=Int→{R:Type}→(Bool→Option R)→Option R
def z80z_ (g:Nat) (a1:Int) {R:Type} (k0:Bool→Option R):Option R :=
 (bif (decide (a1 ≥ 48)) then k0 (decide (a1≤57)) else k0 false)
noncomputable def z80z [Fuel]:yqTy:=@z80z_ NN
def ykay (g:yqTy):Spec A:=fun args=>match args with | [.d (.int .u8 a1)]=>fun k=>g a1 (fun z0=>k (.d (.bool z0)) [.undef]) | _=>fun _=>none
noncomputable def yCKy:Code:=(Tryz.f270.body).getD .skip
noncomputable def yIyy (g:Nat):Env A:=mkE [] [] [] [] [] [] [] [] [] []
theorem yGVy (g:Nat):Same (ykay (@z80z_ g)) (abody (yIyy g) Tryz.f270 yCKy 0 [] [.asis] g):=by intro args;unfold ykay;split;exact .inr fun R k=>(by kernel_rfl);exact .inl fun R k=>rfl
theorem yrFy [Fuel]:Ok 270 (ykay (@z80z _)):=yacy std .nil ⟨rfl,rfl,by kernel_rfl,rfl,rfl,rfl⟩ (yGVy NN) (cuts0 (fun _=>rfl) (by kernel_rfl)) Tryz.func270 (by kernel_rfl) (by kernel_rfl)
abbrev yqSy:Type 1:=List UInt8→{R:Type}→(Int→Bool→Option R)→Option R
structure C_z30z where
 N:Nat
 z80z:yqTy
 z83z:ytWy
def z30z_L2 (g:C_z30z):Nat→List UInt8→Int→Int→Int→{R:Type}→(Int→Bool→Option R)→(Int→Option R)→Option R
 | 0,_,_,_,_,_,_,_=>none
 | n + 1,v2,v3,v4,v5,_,e0,e1=>(bif (decide (v5 < v4)) then (get_ v2 v5 fun x10=>(g.z83z (x10.toNat:Int) (fun r11=>(bif r11 then z30z_L2 g n v2 (w64 (v3 + 1)) v4 (w64 (v5 + 1)) e0 e1 else (get_ v2 v5 fun x12=>(g.z80z (x12.toNat:Int) (fun r13=>(bif (!r13) then e0 0 false else z30z_L2 g n v2 v3 v4 (w64 (v5 + 1)) e0 e1)))))))) else e1 v3)
def z30z_ (g:C_z30z) (a1:List UInt8) {R:Type} (k0:Int→Bool→Option R):Option R :=
 (z30z_L2 g g.N a1 0 (a1.length:Int) 0 (fun e14 e15=>k0 e14 e15) (fun e16=>k0 e16 true))
noncomputable def yesy [Fuel]:C_z30z:=⟨NN,@z80z _,@z83z _⟩
noncomputable def z30z [Fuel]:yqSy:=@z30z_ yesy
def ykfy (g:yqSy):Spec A:=fun args=>match args with | [.d (.str a1)]=>fun k=>g a1 (fun z0 z1=>k (.tup [.d (.int .i64 z0),.d (.bool z1)]) [.undef]) | _=>fun _=>none
def ylcy:SSt:=mkSh 25 0 [(0,.str),(2,.int .i64),(6,.int .i64),(7,.int .i64)] []
def yfFy (g:C_z30z) (n:Nat):LPT A:=fun ps=>match ps with | [.d (.str p1),.d (.int .i64 p2),.d (.int .i64 p3),.d (.int .i64 p4)]=>fun K=>z30z_L2 g n p1 p2 p3 p4 (fun z0 z1=>K .ret (mkSt 25 0 [(2,.d (.int .i64 z0)),(3,.d (.bool z1))] [])) (fun z0=>K (.exit 0) (mkSt 25 0 [(2,.d (.int .i64 z0))] [])) | _=>fun _=>none
noncomputable def yuky:Code:=(Tryz.f269.body).getD .skip
noncomputable def ypuy (g:C_z30z):Env A:=mkE [(270,ykay g.z80z),(303,ynly g.z83z)] [] [(2,⟨[0,2,6,7],[],[],[],[],[],[]⟩)] [(2,⟨[2,3],[],[],[],[],[],[]⟩)] [(2,yajy ylcy (yfFy g g.N))] [] [] [] [] []
theorem yFhy [Fuel]:yahy (ypuy yesy).C:=ct_of (P:=Tryz.prog) (T:=T) (.cons yrFy (.cons yxTy .nil)) (by kernel_rfl)
noncomputable def yqUy:Code:=sub [1,0,1,0,0] yuky
theorem yBdy (g:C_z30z) (n:Nat):yaCy (ypuy g) g.N yqUy ylcy (yfFy g) n:=by intro ps;unfold yfFy;split;exact .inr fun R K=>(by kernel_rfl);exact .inl fun R K=>rfl
theorem yzwy [Fuel]:yaiy (ypuy yesy) NN yqUy:=yamy ylcy (yfFy yesy) (by kernel_rfl) yFhy (cuts0 (fun _=>rfl) (by kernel_rfl)) (fun ps R K=>by unfold yfFy;split <;> (try unfold z30z_L2) <;> rfl) (yBdy yesy)
theorem yEOy (g:C_z30z):Same (ykfy (@z30z_ g)) (abody (ypuy g) Tryz.f269 yuky 0 [] [.asis,.asis] g.N):=by intro args;unfold ykfy;split;exact .inr fun R k=>(by kernel_rfl);exact .inl fun R k=>rfl
theorem yxDy [Fuel]:Ok 269 (ykfy (@z30z _)):=yacy std (.cons yrFy (.cons yxTy .nil)) ⟨rfl,rfl,by kernel_rfl,rfl,rfl,rfl⟩ (yEOy yesy) (cutsL (fun _=>rfl) (.cons yzwy .nil) (by kernel_rfl)) Tryz.func269 (by kernel_rfl) (by kernel_rfl)
abbrev yh5y:Type 1:=List UInt8→{R:Type}→(Int→Bool→Option R)→Option R
structure C_call_split where
 N:Nat
 z4z:T_z4z
 z30z:yqSy
def ybty (g:C_call_split) (a1:List UInt8) {R:Type} (k0:Int→Bool→Option R):Option R :=
 (g.z30z a1 (fun r2 r3=>(bif (!r3) then k0 0 false else (bif (decide ((a1.length:Int) > 10)) then k0 0 false else (g.z4z a1 [48,49,50,51,52,53,54,55,56,57] (fun r4=>(bif (decide (r4 < 1)) then k0 0 false else (bif (decide (r4 > 3)) then k0 0 false else (bif (decide ((w64 ((w64 ((a1.length:Int) - r4)) - 1)) < 1)) then k0 0 false else (bif (decide ((w64 ((w64 ((a1.length:Int) - r4)) - 1)) > 4)) then k0 0 false else (bif (decide (0≤r4)&&decide (r4≤(a1.length:Int))) then (g.z30z (a1.take (r4:Int).toNat) (fun r5 r6=>k0 r4 (decide (r5 > 0)))) else none)))))))))))
noncomputable def yc2y [Fuel]:C_call_split:=⟨NN,@z4z _,@z30z _⟩
noncomputable def call_split [Fuel]:yh5y:=@ybty yc2y
def yeCy (g:yh5y):Spec A:=fun args=>match args with | [.d (.str a1)]=>fun k=>g a1 (fun z0 z1=>k (.tup [.d (.int .i64 z0),.d (.bool z1)]) [.undef]) | _=>fun _=>none
noncomputable def yDpy:Code:=(Tryz.f268.body).getD .skip
noncomputable def ytly (g:C_call_split):Env A:=mkE [(235,ytsy g.z4z),(269,ykfy g.z30z)] [] [] [] [] [] [] [] [] []
theorem ys2y (g:C_call_split):Same (yeCy (@ybty g)) (abody (ytly g) Tryz.f268 yDpy 0 [] [.asis,.asis] g.N):=by intro args;unfold yeCy;split;exact .inr fun R k=>(by kernel_rfl);exact .inl fun R k=>rfl
theorem ys8y [Fuel]:Ok 268 (yeCy (@call_split _)):=yacy std (.cons yAyy (.cons yxDy .nil)) ⟨rfl,rfl,by kernel_rfl,rfl,rfl,rfl⟩ (ys2y yc2y) (cuts0 (fun _=>rfl) (by kernel_rfl)) Tryz.func268 (by kernel_rfl) (by kernel_rfl)
abbrev yhZy:Type 1:=List UInt8→{R:Type}→(G_Parts→Bool→Option R)→Option R
structure C_call_based where
 N:Nat
 call_split:yh5y
def ygLy (g:C_call_based) (a1:List UInt8) {R:Type} (k0:G_Parts→Bool→Option R):Option R :=
 (g.call_split a1 (fun r2 r3=>(bif (!r3) then k0 (⟨[],[],[],0,[]⟩:G_Parts) false else (bif (decide (0≤(w64 (r2 + 1)))&&decide ((w64 (r2 + 1))≤(a1.length:Int))) then (bif (decide (0≤(w64 (r2 + 1)))&&decide ((w64 (r2 + 1))≤(a1.length:Int))) then k0 (⟨a1,(a1.take ((w64 (r2 + 1)):Int).toNat),(a1.drop ((w64 (r2 + 1)):Int).toNat),0,[]⟩:G_Parts) true else none) else none))))
noncomputable def ydEy [Fuel]:C_call_based:=⟨NN,@call_split _⟩
noncomputable def call_based [Fuel]:yhZy:=@ygLy ydEy
def yeDy (g:yhZy):Spec A:=fun args=>match args with | [.d (.str a1)]=>fun k=>g a1 (fun z0 z1=>k (.tup [.agg [.d (.str z0.f_Base),.d (.str z0.f_Prefix),.d (.str z0.f_Suffix),.d (.int .i64 z0.f_Kind),.d (.str z0.f_Added)],.d (.bool z1)]) [.undef]) | _=>fun _=>none
noncomputable def yDYy:Code:=(Tryz.f220.body).getD .skip
noncomputable def yuQy (g:C_call_based):Env A:=mkE [(268,yeCy g.call_split)] [(2,[0])] [] [] [] [] [] [] [] []
theorem ysLy (g:C_call_based):Same (yeDy (@ygLy g)) (abody (yuQy g) Tryz.f220 yDYy 1 [] [.asis,.asis] g.N):=by intro args;unfold yeDy;split;exact .inr fun R k=>(by kernel_rfl);exact .inl fun R k=>rfl
theorem ysHy [Fuel]:Ok 220 (yeDy (@call_based _)):=yacy std (.cons ys8y .nil) ⟨rfl,rfl,by kernel_rfl,rfl,rfl,rfl⟩ (ysLy ydEy) (cuts0 (fun _=>rfl) (by kernel_rfl)) Tryz.func220 (by kernel_rfl) (by kernel_rfl)
abbrev yp7y:Type 1:=List UInt8→{R:Type}→(Bool→Option R)→Option R
structure C_z64z where
 N:Nat
 z30z:yqSy
def z64z_ (g:C_z64z) (a1:List UInt8) {R:Type} (k0:Bool→Option R):Option R :=
 (g.z30z a1 (fun r2 r3=>(bif r3 then (bif (decide (r2 > 0)) then k0 (decide ((a1.length:Int)≤4)) else k0 false) else k0 false)))
noncomputable def yqPy [Fuel]:C_z64z:=⟨NN,@z30z _⟩
noncomputable def z64z [Fuel]:yp7y:=@z64z_ yqPy
def yjxy (g:yp7y):Spec A:=fun args=>match args with | [.d (.str a1)]=>fun k=>g a1 (fun z0=>k (.d (.bool z0)) [.undef]) | _=>fun _=>none
noncomputable def yEfy:Code:=(Tryz.f221.body).getD .skip
noncomputable def yIWy (g:C_z64z):Env A:=mkE [(269,ykfy g.z30z)] [] [] [] [] [] [] [] [] []
theorem yE1y (g:C_z64z):Same (yjxy (@z64z_ g)) (abody (yIWy g) Tryz.f221 yEfy 0 [] [.asis] g.N):=by intro args;unfold yjxy;split;exact .inr fun R k=>(by kernel_rfl);exact .inl fun R k=>rfl
theorem yx3y [Fuel]:Ok 221 (yjxy (@z64z _)):=yacy std (.cons yxDy .nil) ⟨rfl,rfl,by kernel_rfl,rfl,rfl,rfl⟩ (yE1y yqPy) (cuts0 (fun _=>rfl) (by kernel_rfl)) Tryz.func221 (by kernel_rfl) (by kernel_rfl)
abbrev yi6y:Type 1:=List UInt8→{R:Type}→(Int→List UInt8→Bool→Option R)→Option R
structure C_call_tail where
 N:Nat
 z64z:yp7y
 z80z:yqTy
def yhJy (g:C_call_tail) (a1:List UInt8) {R:Type} (k0:Int→List UInt8→Bool→Option R):Option R :=
 (bif (a1 == [112]) then k0 3 [] true else (bif (a1 == [109]) then k0 4 [] true else (bif (a1 == [109,109]) then k0 5 [] true else (bif (a1 == [97,109]) then k0 6 [] true else (bif ((a1.length:Int) == 1) then (at_ a1 0 fun x2=>(g.z80z (x2.toNat:Int) (fun r3=>(bif r3 then k0 2 a1 true else (g.z64z a1 (fun r4=>k0 1 a1 r4)))))) else (g.z64z a1 (fun r5=>k0 1 a1 r5)))))))
noncomputable def yevy [Fuel]:C_call_tail:=⟨NN,@z64z _,@z80z _⟩
noncomputable def call_tail [Fuel]:yi6y:=@yhJy yevy
def yfZy (g:yi6y):Spec A:=fun args=>match args with | [.d (.str a1)]=>fun k=>g a1 (fun z0 z1 z2=>k (.tup [.d (.int .i64 z0),.d (.str z1),.d (.bool z2)]) [.undef]) | _=>fun _=>none
noncomputable def yDyy:Code:=(Tryz.f222.body).getD .skip
noncomputable def yxdy (g:C_call_tail):Env A:=mkE [(221,yjxy g.z64z),(270,ykay g.z80z)] [] [] [] [] [] [] [] [] []
theorem ytVy (g:C_call_tail):Same (yfZy (@yhJy g)) (abody (yxdy g) Tryz.f222 yDyy 0 [] [.asis,.asis,.asis] g.N):=by intro args;unfold yfZy;split;exact .inr fun R k=>(by kernel_rfl);exact .inl fun R k=>rfl
theorem ywgy [Fuel]:Ok 222 (yfZy (@call_tail _)):=yacy std (.cons yx3y (.cons yrFy .nil)) ⟨rfl,rfl,by kernel_rfl,rfl,rfl,rfl⟩ (ytVy yevy) (cuts0 (fun _=>rfl) (by kernel_rfl)) Tryz.func222 (by kernel_rfl) (by kernel_rfl)
abbrev yidy:Type 1:=List UInt8→{R:Type}→(G_Parts→Bool→Option R)→Option R
structure C_call_Parts where
 N:Nat
 z22z:ymSy
 call_based:yhZy
 z64z:yp7y
 call_tail:yi6y
def ygPy (g:C_call_Parts) (a1:List UInt8) {R:Type} (k0:G_Parts→Bool→Option R):Option R :=
 (bif (decide ((a1.length:Int) > 14)) then k0 (⟨[],[],[],0,[]⟩:G_Parts) false else (g.call_based a1 (fun r2 r3=>(bif r3 then k0 r2 true else (g.z22z a1 [47] (fun r4 r5 r6=>(bif (!r6) then k0 (⟨[],[],[],0,[]⟩:G_Parts) false else (g.call_based r5 (fun r7 r8=>(bif r8 then (g.z64z r4 (fun r9=>(bif r9 then k0 (⟨r7.f_Base,r7.f_Prefix,r7.f_Suffix,1,r4⟩:G_Parts) true else (g.call_based r4 (fun r10 r11=>(g.call_tail r5 (fun r12 r13 r14=>(bif (!r11) then k0 (⟨[],[],[],0,[]⟩:G_Parts) false else (bif (!r14) then k0 (⟨[],[],[],0,[]⟩:G_Parts) false else k0 (⟨r10.f_Base,r10.f_Prefix,r10.f_Suffix,r12,r13⟩:G_Parts) true))))))))) else (g.call_based r4 (fun r15 r16=>(g.call_tail r5 (fun r17 r18 r19=>(bif (!r16) then k0 (⟨[],[],[],0,[]⟩:G_Parts) false else (bif (!r19) then k0 (⟨[],[],[],0,[]⟩:G_Parts) false else k0 (⟨r15.f_Base,r15.f_Prefix,r15.f_Suffix,r17,r18⟩:G_Parts) true))))))))))))))))
noncomputable def ybhy [Fuel]:C_call_Parts:=⟨NN,@z22z _,@call_based _,@z64z _,@call_tail _⟩
noncomputable def call_Parts [Fuel]:yidy:=@ygPy ybhy
def yeGy (g:yidy):Spec A:=fun args=>match args with | [.d (.str a1)]=>fun k=>g a1 (fun z0 z1=>k (.tup [.agg [.d (.str z0.f_Base),.d (.str z0.f_Prefix),.d (.str z0.f_Suffix),.d (.int .i64 z0.f_Kind),.d (.str z0.f_Added)],.d (.bool z1)]) [.undef]) | _=>fun _=>none
noncomputable def yDLy:Code:=(Tryz.f177.body).getD .skip
noncomputable def ytDy (g:C_call_Parts):Env A:=mkE [(128,yhRy g.z22z),(220,yeDy g.call_based),(221,yjxy g.z64z),(222,yfZy g.call_tail)] [(2,[0]),(4,[1]),(9,[2]),(11,[3])] [] [] [] [] [] [] [] []
theorem ysXy (g:C_call_Parts):Same (yeGy (@ygPy g)) (abody (ytDy g) Tryz.f177 yDLy 4 [] [.asis,.asis] g.N):=by intro args;unfold yeGy;split;exact .inr fun R k=>(by kernel_rfl);exact .inl fun R k=>rfl
theorem ytay [Fuel]:Ok 177 (yeGy (@call_Parts _)):=yacy std (.cons ynhy (.cons ysHy (.cons yx3y (.cons ywgy .nil)))) ⟨rfl,rfl,by kernel_rfl,rfl,rfl,rfl⟩ (ysXy ybhy) (cuts0 (fun _=>rfl) (by kernel_rfl)) Tryz.func177 (by kernel_rfl) (by kernel_rfl)
abbrev ymmy:Type 1:=List UInt8→{R:Type}→(Bool→Option R)→Option R
structure C_call_Is where
 N:Nat
 call_Parts:yidy
def yvQy (g:C_call_Is) (a1:List UInt8) {R:Type} (k0:Bool→Option R):Option R :=
 (g.call_Parts a1 (fun r2 r3=>k0 r3))
noncomputable def yiMy [Fuel]:C_call_Is:=⟨NN,@call_Parts _⟩
noncomputable def call_Is [Fuel]:ymmy:=@yvQy yiMy
def yhvy (g:ymmy):Spec A:=fun args=>match args with | [.d (.str a1)]=>fun k=>g a1 (fun z0=>k (.d (.bool z0)) [.undef]) | _=>fun _=>none
noncomputable def yC5y:Code:=(Tryz.f136.body).getD .skip
noncomputable def yAPy (g:C_call_Is):Env A:=mkE [(177,yeGy g.call_Parts)] [(3,[0])] [] [] [] [] [] [] [] []
theorem yzoy (g:C_call_Is):Same (yhvy (@yvQy g)) (abody (yAPy g) Tryz.f136 yC5y 1 [] [.asis] g.N):=by intro args;unfold yhvy;split;exact .inr fun R k=>(by kernel_rfl);exact .inl fun R k=>rfl
theorem ypMy [Fuel]:Ok 136 (yhvy (@call_Is _)):=yacy std (.cons ytay .nil) ⟨rfl,rfl,by kernel_rfl,rfl,rfl,rfl⟩ (yzoy yiMy) (cuts0 (fun _=>rfl) (by kernel_rfl)) Tryz.func136 (by kernel_rfl) (by kernel_rfl)
abbrev yizy:Type 1:=List UInt8→{R:Type}→(Bool→Option R)→Option R
structure C_kit_IsName where
 N:Nat
 kit_IsKey:ydoy
def yeBy (g:C_kit_IsName) (a1:List UInt8) {R:Type} (k0:Bool→Option R):Option R :=
 (bif (a1 == []) then k0 true else (g.kit_IsKey a1 (fun r2=>k0 r2)))
noncomputable def ydSy [Fuel]:C_kit_IsName:=⟨NN,@kit_IsKey _⟩
noncomputable def kit_IsName [Fuel]:yizy:=@yeBy ydSy
def yeJy (g:yizy):Spec A:=fun args=>match args with | [.d (.str a1)]=>fun k=>g a1 (fun z0=>k (.d (.bool z0)) [.undef]) | _=>fun _=>none
noncomputable def yCAy:Code:=(Tryz.f167.body).getD .skip
noncomputable def yuTy (g:C_kit_IsName):Env A:=mkE [(137,ycly g.kit_IsKey)] [] [] [] [] [] [] [] [] []
theorem ysRy (g:C_kit_IsName):Same (yeJy (@yeBy g)) (abody (yuTy g) Tryz.f167 yCAy 0 [] [.asis] g.N):=by intro args;unfold yeJy;split;exact .inr fun R k=>(by kernel_rfl);exact .inl fun R k=>rfl
theorem ys1y [Fuel]:Ok 167 (yeJy (@kit_IsName _)):=yacy std (.cons yc4y .nil) ⟨rfl,rfl,by kernel_rfl,rfl,rfl,rfl⟩ (ysRy ydSy) (cuts0 (fun _=>rfl) (by kernel_rfl)) Tryz.func167 (by kernel_rfl) (by kernel_rfl)
abbrev ytSy:Type 1:=G_Contact→{R:Type}→(Int→Option R)→Option R
structure C_z52z where
 N:Nat
 z55z:ymny
 z39z:yiyy
 kit_IsMode:yh7y
 call_Is:ymmy
 kit_IsKey:ydoy
 kit_IsName:yizy
def z52z_ (g:C_z52z) (a1:G_Contact) {R:Type} (k0:Int→Option R):Option R :=
 (g.z55z a1.f_At (fun r2=>(bif (!r2) then k0 1 else (g.kit_IsMode a1.f_Mode (fun r3=>(bif (!r3) then k0 4 else (g.kit_IsKey a1.f_Band (fun r4=>(bif (!r4) then k0 5 else (g.call_Is a1.f_Call (fun r5=>(bif (!r5) then k0 3 else (g.z39z a1.f_Sent 0 99999 (fun r6=>(bif r6 then k0 1 else (g.z39z a1.f_Heard 0 99999 (fun r7=>(bif r7 then k0 1 else (g.kit_IsName a1.f_Gave (fun r8=>(bif (!r8) then k0 5 else (g.kit_IsName a1.f_Got (fun r9=>(bif (!r9) then k0 5 else k0 0))))))))))))))))))))))))
noncomputable def ypSy [Fuel]:C_z52z:=⟨NN,@z55z _,@z39z _,@kit_IsMode _,@call_Is _,@kit_IsKey _,@kit_IsName _⟩
noncomputable def z52z [Fuel]:ytSy:=@z52z_ ypSy
def ynzy (g:ytSy):Spec A:=fun args=>match args with | [.agg [.d (.int .i64 a1),.d (.int .i64 a2),.d (.str a3),.d (.str a4),.d (.int .i64 a5),.d (.int .i64 a6),.d (.str a7),.d (.str a8)]]=>fun k=>g ⟨a1,a2,a3,a4,a5,a6,a7,a8⟩ (fun z0=>k (.d (.int .i64 z0)) [.undef]) | _=>fun _=>none
noncomputable def yDzy:Code:=(Tryz.f120.body).getD .skip
noncomputable def yIuy (g:C_z52z):Env A:=mkE [(133,yhTy g.z55z),(134,ye7y g.z39z),(135,yeHy g.kit_IsMode),(136,yhvy g.call_Is),(137,ycly g.kit_IsKey),(167,yeJy g.kit_IsName)] [(1,[0])] [] [] [] [] [] [] [] []
theorem yHhy (g:C_z52z):Same (ynzy (@z52z_ g)) (abody (yIuy g) Tryz.f120 yDzy 1 [] [.asis] g.N):=by intro args;unfold ynzy;split;exact .inr fun R k=>(by kernel_rfl);exact .inl fun R k=>rfl
theorem yHDy [Fuel]:Ok 120 (ynzy (@z52z _)):=yacy std (.cons yrzy (.cons ykky (.cons ysPy (.cons ypMy (.cons yc4y (.cons ys1y .nil)))))) ⟨rfl,rfl,by kernel_rfl,rfl,rfl,rfl⟩ (yHhy ypSy) (cuts0 (fun _=>rfl) (by kernel_rfl)) Tryz.func120 (by kernel_rfl) (by kernel_rfl)
abbrev yvyy:Type 1:=G_Deed→{R:Type}→(Int→Option R)→Option R
structure C_z69z where
 N:Nat
 z52z:ytSy
def z69z_ (g:C_z69z) (a1:G_Deed) {R:Type} (k0:Int→Option R):Option R :=
 (g.z52z a1.f_Contact (fun r2=>(bif (r2 != 0) then k0 r2 else (bif (decide (a1.f_Contact.f_At > a1.f_At)) then k0 1 else k0 0))))
noncomputable def yity [Fuel]:C_z69z:=⟨NN,@z52z _⟩
noncomputable def z69z [Fuel]:yvyy:=@z69z_ yity
def ynIy (g:yvyy):Spec A:=fun args=>match args with | [.agg [.d (.str a1),.d (.int .i64 a2),.d (.int .i64 a3),.d (.int .i64 a4),.d (.int .i64 a5),.d (.int .i64 a6),.d (.str a7),.d (.str a8),.d (.int .i64 a9),.d (.int .i64 a10),.d (.str a11),.d (.str a12),.d (.str a13),.d (.str a14),.d (.int .i64 a15)]]=>fun k=>g ⟨a1,a2,a3,a4,⟨a5,a6,a7,a8,a9,a10,a11,a12⟩,a13,a14,a15⟩ (fun z0=>k (.d (.int .i64 z0)) [.undef]) | _=>fun _=>none
noncomputable def yDSy:Code:=(Tryz.f256.body).getD .skip
noncomputable def yJay (g:C_z69z):Env A:=mkE [(120,ynzy g.z52z)] [(1,[0])] [] [] [] [] [] [] [] []
theorem yEWy (g:C_z69z):Same (ynIy (@z69z_ g)) (abody (yJay g) Tryz.f256 yDSy 1 [] [.asis] g.N):=by intro args;unfold ynIy;split;exact .inr fun R k=>(by kernel_rfl);exact .inl fun R k=>rfl
theorem yGLy [Fuel]:Ok 256 (ynIy (@z69z _)):=yacy std (.cons yHDy .nil) ⟨rfl,rfl,by kernel_rfl,rfl,rfl,rfl⟩ (yEWy yity) (cuts0 (fun _=>rfl) (by kernel_rfl)) Tryz.func256 (by kernel_rfl) (by kernel_rfl)
abbrev yt9y:Type 1:=G_Deed→{R:Type}→(Int→Option R)→Option R
structure C_z23z where
 N:Nat
 z39z:yiyy
 kit_IsKey:ydoy
 z69z:yvyy
def z23z_ (g:C_z23z) (a1:G_Deed) {R:Type} (k0:Int→Option R):Option R :=
 (bif (a1.f_Kind == 1) then (g.z69z a1 (fun r2=>k0 r2)) else (bif (a1.f_Kind == 2) then (g.kit_IsKey a1.f_Band (fun r3=>(bif (!r3) then k0 5 else k0 0))) else (bif (a1.f_Kind == 5) then (g.kit_IsKey a1.f_Of (fun r4=>(bif (!r4) then k0 5 else (g.z39z a1.f_Other 1 1000000 (fun r5=>(bif r5 then k0 1 else k0 0)))))) else (g.z39z a1.f_Contact.f_Sent 1 99999 (fun r6=>(bif r6 then k0 1 else k0 0))))))
noncomputable def ya6y [Fuel]:C_z23z:=⟨NN,@z39z _,@kit_IsKey _,@z69z _⟩
noncomputable def z23z [Fuel]:yt9y:=@z23z_ ya6y
def yoay (g:yt9y):Spec A:=fun args=>match args with | [.agg [.d (.str a1),.d (.int .i64 a2),.d (.int .i64 a3),.d (.int .i64 a4),.d (.int .i64 a5),.d (.int .i64 a6),.d (.str a7),.d (.str a8),.d (.int .i64 a9),.d (.int .i64 a10),.d (.str a11),.d (.str a12),.d (.str a13),.d (.str a14),.d (.int .i64 a15)]]=>fun k=>g ⟨a1,a2,a3,a4,⟨a5,a6,a7,a8,a9,a10,a11,a12⟩,a13,a14,a15⟩ (fun z0=>k (.d (.int .i64 z0)) [.undef]) | _=>fun _=>none
noncomputable def yCHy:Code:=(Tryz.f205.body).getD .skip
noncomputable def yIVy (g:C_z23z):Env A:=mkE [(134,ye7y g.z39z),(137,ycly g.kit_IsKey),(256,ynIy g.z69z)] [(1,[0])] [] [] [] [] [] [] [] []
theorem yHky (g:C_z23z):Same (yoay (@z23z_ g)) (abody (yIVy g) Tryz.f205 yCHy 1 [] [.asis] g.N):=by intro args;unfold yoay;split;exact .inr fun R k=>(by kernel_rfl);exact .inl fun R k=>rfl
theorem yE9y [Fuel]:Ok 205 (yoay (@z23z _)):=yacy std (.cons ykky (.cons yc4y (.cons yGLy .nil))) ⟨rfl,rfl,by kernel_rfl,rfl,rfl,rfl⟩ (yHky ya6y) (cuts0 (fun _=>rfl) (by kernel_rfl)) Tryz.func205 (by kernel_rfl) (by kernel_rfl)
abbrev ykVy:Type 1:=G_Deed→{R:Type}→(Bool→Option R)→Option R
def yawy (g:Nat) (a1:G_Deed) {R:Type} (k0:Bool→Option R):Option R :=
 (bif (a1.f_Kind == 3) then (bif (a1.f_Kind == 1) then (bif (a1.f_Kind == 2) then (bif (a1.f_Kind == 5) then k0 true else (bif (a1.f_Of == []) then k0 (a1.f_Other == 0) else k0 false)) else (bif (a1.f_Band == []) then (bif (a1.f_Kind == 5) then k0 true else (bif (a1.f_Of == []) then k0 (a1.f_Other == 0) else k0 false)) else k0 false)) else (bif (yaky a1.f_Contact (⟨0,0,[],[],a1.f_Contact.f_Sent,0,[],[]⟩:G_Contact)) then (bif (a1.f_Kind == 2) then (bif (a1.f_Kind == 5) then k0 true else (bif (a1.f_Of == []) then k0 (a1.f_Other == 0) else k0 false)) else (bif (a1.f_Band == []) then (bif (a1.f_Kind == 5) then k0 true else (bif (a1.f_Of == []) then k0 (a1.f_Other == 0) else k0 false)) else k0 false)) else k0 false)) else (bif (a1.f_Kind == 4) then (bif (a1.f_Kind == 1) then (bif (a1.f_Kind == 2) then (bif (a1.f_Kind == 5) then k0 true else (bif (a1.f_Of == []) then k0 (a1.f_Other == 0) else k0 false)) else (bif (a1.f_Band == []) then (bif (a1.f_Kind == 5) then k0 true else (bif (a1.f_Of == []) then k0 (a1.f_Other == 0) else k0 false)) else k0 false)) else (bif (yaky a1.f_Contact (⟨0,0,[],[],a1.f_Contact.f_Sent,0,[],[]⟩:G_Contact)) then (bif (a1.f_Kind == 2) then (bif (a1.f_Kind == 5) then k0 true else (bif (a1.f_Of == []) then k0 (a1.f_Other == 0) else k0 false)) else (bif (a1.f_Band == []) then (bif (a1.f_Kind == 5) then k0 true else (bif (a1.f_Of == []) then k0 (a1.f_Other == 0) else k0 false)) else k0 false)) else k0 false)) else (bif (a1.f_Kind == 1) then (bif (a1.f_Kind == 2) then (bif (a1.f_Kind == 5) then k0 true else (bif (a1.f_Of == []) then k0 (a1.f_Other == 0) else k0 false)) else (bif (a1.f_Band == []) then (bif (a1.f_Kind == 5) then k0 true else (bif (a1.f_Of == []) then k0 (a1.f_Other == 0) else k0 false)) else k0 false)) else (bif (yaky a1.f_Contact (⟨0,0,[],[],0,0,[],[]⟩:G_Contact)) then (bif (a1.f_Kind == 2) then (bif (a1.f_Kind == 5) then k0 true else (bif (a1.f_Of == []) then k0 (a1.f_Other == 0) else k0 false)) else (bif (a1.f_Band == []) then (bif (a1.f_Kind == 5) then k0 true else (bif (a1.f_Of == []) then k0 (a1.f_Other == 0) else k0 false)) else k0 false)) else k0 false))))
noncomputable def net_idle [Fuel]:ykVy:=@yawy NN
def ygJy (g:ykVy):Spec A:=fun args=>match args with | [.agg [.d (.str a1),.d (.int .i64 a2),.d (.int .i64 a3),.d (.int .i64 a4),.d (.int .i64 a5),.d (.int .i64 a6),.d (.str a7),.d (.str a8),.d (.int .i64 a9),.d (.int .i64 a10),.d (.str a11),.d (.str a12),.d (.str a13),.d (.str a14),.d (.int .i64 a15)]]=>fun k=>g ⟨a1,a2,a3,a4,⟨a5,a6,a7,a8,a9,a10,a11,a12⟩,a13,a14,a15⟩ (fun z0=>k (.d (.bool z0)) [.undef]) | _=>fun _=>none
noncomputable def yDry:Code:=(Tryz.f206.body).getD .skip
noncomputable def yzUy (g:Nat):Env A:=mkE [] [(1,[0]),(5,[1])] [] [] [] [] [] [] [] []
theorem ywAy (g:Nat):Same (ygJy (@yawy g)) (abody (yzUy g) Tryz.f206 yDry 2 [] [.asis] g):=by intro args;unfold ygJy;split;exact .inr fun R k=>(by kernel_rfl);exact .inl fun R k=>rfl
theorem ywEy [Fuel]:Ok 206 (ygJy (@net_idle _)):=yacy std .nil ⟨rfl,rfl,by kernel_rfl,rfl,rfl,rfl⟩ (ywAy NN) (cuts0 (fun _=>rfl) (by kernel_rfl)) Tryz.func206 (by kernel_rfl) (by kernel_rfl)
abbrev yh8y:Type 1:=G_Deed→{R:Type}→(Int→Option R)→Option R
structure C_net_formed where
 N:Nat
 z55z:ymny
 z39z:yiyy
 kit_IsKey:ydoy
 z23z:yt9y
 net_idle:ykVy
def ycDy (g:C_net_formed) (a1:G_Deed) {R:Type} (k0:Int→Option R):Option R :=
 (g.kit_IsKey a1.f_Site (fun r2=>(bif (!r2) then k0 5 else (g.z39z a1.f_No 1 1000000 (fun r3=>(bif r3 then k0 1 else (g.z55z a1.f_At (fun r4=>(bif (!r4) then k0 1 else (g.z39z a1.f_Kind 1 5 (fun r5=>(bif r5 then k0 4 else (g.z23z a1 (fun r6=>(bif (r6 != 0) then k0 r6 else (g.net_idle a1 (fun r7=>(bif (!r7) then k0 3 else k0 0))))))))))))))))))
noncomputable def ybuy [Fuel]:C_net_formed:=⟨NN,@z55z _,@z39z _,@kit_IsKey _,@z23z _,@net_idle _⟩
noncomputable def net_formed [Fuel]:yh8y:=@ycDy ybuy
def yeEy (g:yh8y):Spec A:=fun args=>match args with | [.agg [.d (.str a1),.d (.int .i64 a2),.d (.int .i64 a3),.d (.int .i64 a4),.d (.int .i64 a5),.d (.int .i64 a6),.d (.str a7),.d (.str a8),.d (.int .i64 a9),.d (.int .i64 a10),.d (.str a11),.d (.str a12),.d (.str a13),.d (.str a14),.d (.int .i64 a15)]]=>fun k=>g ⟨a1,a2,a3,a4,⟨a5,a6,a7,a8,a9,a10,a11,a12⟩,a13,a14,a15⟩ (fun z0=>k (.d (.int .i64 z0)) [.undef]) | _=>fun _=>none
noncomputable def yDiy:Code:=(Tryz.f158.body).getD .skip
noncomputable def yu8y (g:C_net_formed):Env A:=mkE [(133,yhTy g.z55z),(134,ye7y g.z39z),(137,ycly g.kit_IsKey),(205,yoay g.z23z),(206,ygJy g.net_idle)] [(1,[0])] [] [] [] [] [] [] [] []
theorem ys0y (g:C_net_formed):Same (yeEy (@ycDy g)) (abody (yu8y g) Tryz.f158 yDiy 1 [] [.asis] g.N):=by intro args;unfold yeEy;split;exact .inr fun R k=>(by kernel_rfl);exact .inl fun R k=>rfl
theorem ylHy [Fuel]:Ok 158 (yeEy (@net_formed _)):=yacy std (.cons yrzy (.cons ykky (.cons yc4y (.cons yE9y (.cons ywEy .nil))))) ⟨rfl,rfl,by kernel_rfl,rfl,rfl,rfl⟩ (ys0y ybuy) (cuts0 (fun _=>rfl) (by kernel_rfl)) Tryz.func158 (by kernel_rfl) (by kernel_rfl)
abbrev yvOy:Type 1:=Int→{R:Type}→(Bool→Option R)→Option R
def z68z_ (g:Nat) (a1:Int) {R:Type} (k0:Bool→Option R):Option R :=
 k0 (a1 != a1)
noncomputable def z68z [Fuel]:yvOy:=@z68z_ NN
def yeZy (g:yvOy):Spec A:=fun args=>match args with | [.d (.int .i64 a1)]=>fun k=>g a1 (fun z0=>k (.d (.bool z0)) [.undef]) | _=>fun _=>none
noncomputable def ytiy:Code:=(Tryz.f213.body).getD .skip
noncomputable def yI8y (g:Nat):Env A:=mkE [] [] [] [] [] [] [] [] [] []
theorem yGwy (g:Nat):Same (yeZy (@z68z_ g)) (abody (yI8y g) Tryz.f213 ytiy 0 [] [.asis] g):=by intro args;unfold yeZy;split;exact .inr fun R k=>(by kernel_rfl);exact .inl fun R k=>rfl
theorem yE7y [Fuel]:Ok 213 (yeZy (@z68z _)):=yacy std .nil ⟨rfl,rfl,by kernel_rfl,rfl,rfl,rfl⟩ (yGwy NN) (cuts0 (fun _=>rfl) (by kernel_rfl)) Tryz.func213 (by kernel_rfl) (by kernel_rfl)
noncomputable def yFny (g:Nat):Env A:=mkED [] [] [] [] [] [] [] [] [] []
theorem yDOy (g:Nat):Same (yeZy (@z68z_ g)) (abody (yFny g) Tryz.f213 ytiy 0 [] [.asis] g):=by intro args;unfold yeZy;split;exact .inr fun R k=>(by kernel_rfl);exact .inl fun R k=>rfl
theorem yEBy [Fuel]:OkD 213 (yeZy (@z68z _)):=yacy stdD .nil ⟨rfl,rfl,by kernel_rfl,rfl,rfl,rfl⟩ (yDOy NN) (cuts0 (fun _=>rfl) (by kernel_rfl)) Tryz.func213 (by kernel_rfl) (by kernel_rfl)
end Go.Am
