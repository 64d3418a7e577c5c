/- The functions of the program as Lean functions, each shown to be what the code computes, part 1. No condition: lemmas for the claim. -/
import Derived.Test.YtoajjnhmofegcaaGreatDoorF0
import Derived.Test.YtoajjnhmofegcaaGreatDoorFSh
set_option linter.unusedVariables false
set_option maxRecDepth 100000
namespace Go.Am
open Go Go.Proofs
abbrev ym7y:Type 1:=Int→Int→{R:Type}→(Int→Option R)→Option R
def yo5y (g:Nat) (a1 a2:Int) {R:Type} (k0:Int→Option R):Option R :=
 (bif (decide (a2 < 1)) then k0 0 else (bif (a2 == 0) then none else (bif (decide ((Int.tmod a1 a2) < 0)) then k0 (w64 ((Int.tmod a1 a2) + a2)) else k0 (Int.tmod a1 a2))))
noncomputable def M_Below [Fuel]:ym7y:=@yo5y NN
def yhAy (g:ym7y):Spec A:=fun args=>match args with | [.d (.int .i64 a1),.d (.int .i64 a2)]=>fun k=>g a1 a2 (fun z0=>k (.d (.int .i64 z0)) [.undef,.undef]) | _=>fun _=>none
noncomputable def yDFy:Code:=(Tryz.f119.body).getD .skip
noncomputable def yASy (g:Nat):Env A:=mkE [] [] [] [] [] [] [] [] [] []
theorem yzmy (g:Nat):Same (yhAy (@yo5y g)) (abody (yASy g) Tryz.f119 yDFy 0 [] [.asis] g):=by intro args;unfold yhAy;split;exact .inr fun R k=>(by kernel_rfl);exact .inl fun R k=>rfl
theorem yzry [Fuel]:Ok 119 (yhAy (@M_Below _)):=yacy std .nil ⟨rfl,rfl,by kernel_rfl,rfl,rfl,rfl⟩ (yzmy NN) (cuts0 (fun _=>rfl) (by kernel_rfl)) Tryz.func119 (by kernel_rfl) (by kernel_rfl)
abbrev yfGy:Type 1:=G_Stream→Int→{R:Type}→(Int→G_Stream→Option R)→Option R
structure C_z29z where
 N:Nat
 M_Below:ym7y
def z29z_ (g:C_z29z) (a1:G_Stream) (a2:Int) {R:Type} (k0:Int→G_Stream→Option R):Option R :=
 (bif ((a1.f_L.length:Int) == 0) then (g.M_Below (w64 ((w64 (a1.f_at + 1)) * 7919)) a2 (fun r3=>k0 r3 (⟨a1.f_L,(w64 (a1.f_at + 1))⟩:G_Stream))) else (bif ((a1.f_L.length:Int) == 0) then none else (bif ((a1.f_L.length:Int) == 0) then none else (get_ a1.f_L (Int.tmod (w64 ((w64 (a1.f_at + 1)) - 1)) (a1.f_L.length:Int)) fun x4=>(g.M_Below x4 1073741824 (fun r5=>(g.M_Below (w64 (r5 + (w64 ((w64 (Int.tdiv (w64 ((w64 (a1.f_at + 1)) - 1)) (a1.f_L.length:Int))) * (w64 (7919 + (Int.tmod (w64 ((w64 (a1.f_at + 1)) - 1)) (a1.f_L.length:Int)))))))) a2 (fun r6=>k0 r6 (⟨a1.f_L,(w64 (a1.f_at + 1))⟩:G_Stream)))))))))
noncomputable def ytRy [Fuel]:C_z29z:=⟨NN,@M_Below _⟩
noncomputable def z29z [Fuel]:yfGy:=@z29z_ ytRy
def ydny (g:yfGy):Spec A:=fun args=>match args with | [.box [.d (.sl 3 a1),.d (.int .i64 a2)],.d (.int .i64 a3)]=>fun k=>g ⟨a1,a2⟩ a3 (fun z0 z1=>k (.d (.int .i64 z0)) [.box [.d (.sl 3 z1.f_L),.d (.int .i64 z1.f_at)],.undef]) | _=>fun _=>none
noncomputable def yFzy:Code:=(Tryz.f50.body).getD .skip
noncomputable def yH3y (g:C_z29z):Env A:=mkE [(119,yhAy g.M_Below)] [] [] [] [] [] [] [] [] [0]
theorem yGvy (g:C_z29z):Same (ydny (@z29z_ g)) (abody (yH3y g) Tryz.f50 yFzy 1 [0] [.asis] g.N):=by intro args;unfold ydny;split;exact .inr fun R k=>(by kernel_rfl);exact .inl fun R k=>rfl
theorem yeYy [Fuel]:Ok 50 (ydny (@z29z _)):=yacy std (.cons yzry .nil) ⟨rfl,rfl,by kernel_rfl,rfl,rfl,rfl⟩ (yGvy ytRy) (cuts0 (fun _=>rfl) (by kernel_rfl)) Tryz.func50 (by kernel_rfl) (by kernel_rfl)
abbrev yjwy:Type 1:=G_Stream→Int→Int→{R:Type}→(Int→G_Stream→Option R)→Option R
structure C_z38z where
 N:Nat
 z29z:yfGy
def z38z_ (g:C_z38z) (a1:G_Stream) (a2 a3:Int) {R:Type} (k0:Int→G_Stream→Option R):Option R :=
 (bif (decide (a3 < a2)) then k0 a2 a1 else (g.z29z a1 (w64 ((w64 (a3 - a2)) + 1)) (fun r4 r5=>k0 (w64 (a2 + r4)) r5)))
noncomputable def yuPy [Fuel]:C_z38z:=⟨NN,@z29z _⟩
noncomputable def z38z [Fuel]:yjwy:=@z38z_ yuPy
def ygey (g:yjwy):Spec A:=fun args=>match args with | [.box [.d (.sl 3 a1),.d (.int .i64 a2)],.d (.int .i64 a3),.d (.int .i64 a4)]=>fun k=>g ⟨a1,a2⟩ a3 a4 (fun z0 z1=>k (.d (.int .i64 z0)) [.box [.d (.sl 3 z1.f_L),.d (.int .i64 z1.f_at)],.undef,.undef]) | _=>fun _=>none
noncomputable def yJuy:Code:=(Tryz.f8.body).getD .skip
noncomputable def yI7y (g:C_z38z):Env A:=mkE [(50,ydny g.z29z)] [] [] [] [] [] [] [] [] [0]
theorem yFdy (g:C_z38z):Same (ygey (@z38z_ g)) (abody (yI7y g) Tryz.f8 yJuy 1 [0] [.asis] g.N):=by intro args;unfold ygey;split;exact .inr fun R k=>(by kernel_rfl);exact .inl fun R k=>rfl
theorem yhQy [Fuel]:Ok 8 (ygey (@z38z _)):=yacy std (.cons yeYy .nil) ⟨rfl,rfl,by kernel_rfl,rfl,rfl,rfl⟩ (yFdy yuPy) (cuts0 (fun _=>rfl) (by kernel_rfl)) Tryz.func8 (by kernel_rfl) (by kernel_rfl)
abbrev yjNy:Type 1:=G_Stream→List Int→{R:Type}→(Int→G_Stream→Option R)→Option R
structure C_z45z where
 N:Nat
 z29z:yfGy
def z45z_ (g:C_z45z) (a1:G_Stream) (a2:List Int) {R:Type} (k0:Int→G_Stream→Option R):Option R :=
 (g.z29z a1 (a2.length:Int) (fun r3 r4=>(get_ a2 r3 fun x5=>k0 x5 r4)))
noncomputable def ytGy [Fuel]:C_z45z:=⟨NN,@z29z _⟩
noncomputable def z45z [Fuel]:yjNy:=@z45z_ ytGy
def ygdy (g:yjNy):Spec A:=fun args=>match args with | [.box [.d (.sl 3 a1),.d (.int .i64 a2)],.d (.sl 3 a3)]=>fun k=>g ⟨a1,a2⟩ a3 (fun z0 z1=>k (.d (.int .i64 z0)) [.box [.d (.sl 3 z1.f_L),.d (.int .i64 z1.f_at)],.undef]) | _=>fun _=>none
noncomputable def yHJy:Code:=(Tryz.f44.body).getD .skip
noncomputable def yJcy (g:C_z45z):Env A:=mkE [(50,ydny g.z29z)] [] [] [] [] [] [] [] [] [0]
theorem yGcy (g:C_z45z):Same (ygdy (@z45z_ g)) (abody (yJcy g) Tryz.f44 yHJy 1 [0] [.asis] g.N):=by intro args;unfold ygdy;split;exact .inr fun R k=>(by kernel_rfl);exact .inl fun R k=>rfl
theorem yhOy [Fuel]:Ok 44 (ygdy (@z45z _)):=yacy std (.cons yeYy .nil) ⟨rfl,rfl,by kernel_rfl,rfl,rfl,rfl⟩ (yGcy ytGy) (cuts0 (fun _=>rfl) (by kernel_rfl)) Tryz.func44 (by kernel_rfl) (by kernel_rfl)
abbrev ym8y:Type 1:=G_Stream→List (List UInt8)→{R:Type}→(List UInt8→G_Stream→Option R)→Option R
structure C_z20z where
 N:Nat
 z29z:yfGy
def z20z_ (g:C_z20z) (a1:G_Stream) (a2:List (List UInt8)) {R:Type} (k0:List UInt8→G_Stream→Option R):Option R :=
 (g.z29z a1 (a2.length:Int) (fun r3 r4=>(get_ a2 r3 fun x5=>k0 x5 r4)))
noncomputable def yvHy [Fuel]:C_z20z:=⟨NN,@z29z _⟩
noncomputable def z20z [Fuel]:ym8y:=@z20z_ yvHy
def yhSy (g:ym8y):Spec A:=fun args=>match args with | [.box [.d (.sl 3 a1),.d (.int .i64 a2)],.d (.sl 9 a3)]=>fun k=>g ⟨a1,a2⟩ a3 (fun z0 z1=>k (.d (.str z0)) [.box [.d (.sl 3 z1.f_L),.d (.int .i64 z1.f_at)],.undef]) | _=>fun _=>none
noncomputable def yFNy:Code:=(Tryz.f70.body).getD .skip
noncomputable def yIQy (g:C_z20z):Env A:=mkE [(50,ydny g.z29z)] [] [] [] [] [] [] [] [] [0]
theorem yGby (g:C_z20z):Same (yhSy (@z20z_ g)) (abody (yIQy g) Tryz.f70 yFNy 1 [0] [.asis] g.N):=by intro args;unfold yhSy;split;exact .inr fun R k=>(by kernel_rfl);exact .inl fun R k=>rfl
theorem yofy [Fuel]:Ok 70 (yhSy (@z20z _)):=yacy std (.cons yeYy .nil) ⟨rfl,rfl,by kernel_rfl,rfl,rfl,rfl⟩ (yGby yvHy) (cuts0 (fun _=>rfl) (by kernel_rfl)) Tryz.func70 (by kernel_rfl) (by kernel_rfl)
abbrev ykby:Type 1:=G_Stream→Int→{R:Type}→(Bool→G_Stream→Option R)→Option R
structure C_z48z where
 N:Nat
 z29z:yfGy
def z48z_ (g:C_z48z) (a1:G_Stream) (a2:Int) {R:Type} (k0:Bool→G_Stream→Option R):Option R :=
 (g.z29z a1 a2 (fun r3 r4=>k0 (r3 == 0) r4))
noncomputable def yv8y [Fuel]:C_z48z:=⟨NN,@z29z _⟩
noncomputable def z48z [Fuel]:ykby:=@z48z_ yv8y
def ygky (g:ykby):Spec A:=fun args=>match args with | [.box [.d (.sl 3 a1),.d (.int .i64 a2)],.d (.int .i64 a3)]=>fun k=>g ⟨a1,a2⟩ a3 (fun z0 z1=>k (.d (.bool z0)) [.box [.d (.sl 3 z1.f_L),.d (.int .i64 z1.f_at)],.undef]) | _=>fun _=>none
noncomputable def yGry:Code:=(Tryz.f71.body).getD .skip
noncomputable def yJoy (g:C_z48z):Env A:=mkE [(50,ydny g.z29z)] [] [] [] [] [] [] [] [] [0]
theorem yFPy (g:C_z48z):Same (ygky (@z48z_ g)) (abody (yJoy g) Tryz.f71 yGry 1 [0] [.asis] g.N):=by intro args;unfold ygky;split;exact .inr fun R k=>(by kernel_rfl);exact .inl fun R k=>rfl
theorem yjIy [Fuel]:Ok 71 (ygky (@z48z _)):=yacy std (.cons yeYy .nil) ⟨rfl,rfl,by kernel_rfl,rfl,rfl,rfl⟩ (yFPy yv8y) (cuts0 (fun _=>rfl) (by kernel_rfl)) Tryz.func71 (by kernel_rfl) (by kernel_rfl)
abbrev yt8y:Type 1:=G_Stream→{R:Type}→(List UInt8→G_Stream→Option R)→Option R
structure C_z75z where
 N:Nat
 z20z:ym8y
 z48z:ykby
def z75z_ (g:C_z75z) (a1:G_Stream) {R:Type} (k0:List UInt8→G_Stream→Option R):Option R :=
 (g.z48z a1 60 (fun r2 r3=>(bif r2 then (g.z20z r3 [[],[107,49],[75,49,65,66],[107,49,97,98,47],[49,97],[107,49,97,98,47,109,109,47,112]] (fun r4 r5=>k0 r4 r5)) else (g.z20z r3 [[107,49,97,98],[107,49,97,97],[107,49,97,98,47,52],[111,104,50,97,98,99],[111,104,50,97,98,100],[119,49,97,119],[110,49,109,109],[103,51,120,121,122,47,112]] (fun r6 r7=>k0 r6 r7)))))
noncomputable def yrcy [Fuel]:C_z75z:=⟨NN,@z20z _,@z48z _⟩
noncomputable def z75z [Fuel]:yt8y:=@z75z_ yrcy
def yn8y (g:yt8y):Spec A:=fun args=>match args with | [.box [.d (.sl 3 a1),.d (.int .i64 a2)]]=>fun k=>g ⟨a1,a2⟩ (fun z0 z1=>k (.d (.str z0)) [.box [.d (.sl 3 z1.f_L),.d (.int .i64 z1.f_at)]]) | _=>fun _=>none
noncomputable def yELy:Code:=(Tryz.f69.body).getD .skip
noncomputable def yIEy (g:C_z75z):Env A:=mkE [(70,yhSy g.z20z),(71,ygky g.z48z)] [(6,[1]),(9,[2])] [] [] [] [] [] [] [] [0]
theorem yFGy (g:C_z75z):Same (yn8y (@z75z_ g)) (abody (yIEy g) Tryz.f69 yELy 3 [0] [.asis] g.N):=by intro args;unfold yn8y;split;exact .inr fun R k=>(by kernel_rfl);exact .inl fun R k=>rfl
theorem yHly [Fuel]:Ok 69 (yn8y (@z75z _)):=yacy std (.cons yofy (.cons yjIy .nil)) ⟨rfl,rfl,by kernel_rfl,rfl,rfl,rfl⟩ (yFGy yrcy) (cuts0 (fun _=>rfl) (by kernel_rfl)) Tryz.func69 (by kernel_rfl) (by kernel_rfl)
abbrev yf0y:Type 1:=G_Stream→Int→Int→{R:Type}→(Int→G_Stream→Option R)→Option R
structure C_Stream_Odd where
 N:Nat
 z38z:yjwy
 z45z:yjNy
 z48z:ykby
def ygFy (g:C_Stream_Odd) (a1:G_Stream) (a2 a3:Int) {R:Type} (k0:Int→G_Stream→Option R):Option R :=
 (g.z48z a1 12 (fun r4 r5=>(bif r4 then (g.z45z r5 [(w64 (a2 - 1)),(w64 (a3 + 1)),a2,a3,(-1099511627776),1099511627776] (fun r6 r7=>k0 r6 r7)) else (g.z38z r5 a2 a3 (fun r8 r9=>k0 r8 r9)))))
noncomputable def yfNy [Fuel]:C_Stream_Odd:=⟨NN,@z38z _,@z45z _,@z48z _⟩
noncomputable def Stream_Odd [Fuel]:yf0y:=@ygFy yfNy
def ydly (g:yf0y):Spec A:=fun args=>match args with | [.box [.d (.sl 3 a1),.d (.int .i64 a2)],.d (.int .i64 a3),.d (.int .i64 a4)]=>fun k=>g ⟨a1,a2⟩ a3 a4 (fun z0 z1=>k (.d (.int .i64 z0)) [.box [.d (.sl 3 z1.f_L),.d (.int .i64 z1.f_at)],.undef,.undef]) | _=>fun _=>none
noncomputable def yEPy:Code:=(Tryz.f72.body).getD .skip
noncomputable def yvjy (g:C_Stream_Odd):Env A:=mkE [(8,ygey g.z38z),(44,ygdy g.z45z),(71,ygky g.z48z)] [(16,[1])] [] [] [] [] [] [] [] [0]
theorem ysNy (g:C_Stream_Odd):Same (ydly (@ygFy g)) (abody (yvjy g) Tryz.f72 yEPy 2 [0] [.asis] g.N):=by intro args;unfold ydly;split;exact .inr fun R k=>(by kernel_rfl);exact .inl fun R k=>rfl
theorem yhby [Fuel]:Ok 72 (ydly (@Stream_Odd _)):=yacy std (.cons yhQy (.cons yhOy (.cons yjIy .nil))) ⟨rfl,rfl,by kernel_rfl,rfl,rfl,rfl⟩ (ysNy yfNy) (cuts0 (fun _=>rfl) (by kernel_rfl)) Tryz.func72 (by kernel_rfl) (by kernel_rfl)
abbrev ytgy:Type 1:=G_Stream→Int→{R:Type}→(G_Contact→G_Stream→Option R)→Option R
structure C_z53z where
 N:Nat
 z45z:yjNy
 z29z:yfGy
 z75z:yt8y
 z20z:ym8y
 z48z:ykby
 Stream_Odd:yf0y
def z53z_ (g:C_z53z) (a1:G_Stream) (a2:Int) {R:Type} (k0:G_Contact→G_Stream→Option R):Option R :=
 (g.z45z a1 [1,1,2,3] (fun r3 r4=>(g.z20z r4 [[98,50,48],[98,50,48],[98,52,48]] (fun r5 r6=>(g.z75z r6 (fun r7 r8=>(g.z45z r8 [0,1,2,3,4,5,6,7] (fun r9 r10=>(g.z45z r10 [0,1,2,9] (fun r11 r12=>(g.z20z r12 [[],[],[102,105,110]] (fun r13 r14=>(g.z20z r14 [[],[],[117,115,97]] (fun r15 r16=>(g.z48z r16 100 (fun r17 r18=>(bif r17 then (g.z29z r18 4 (fun r19 r20=>(bif (r19 == 0) then (g.Stream_Odd r20 0 500 (fun r21 r22=>(g.Stream_Odd r22 1 3 (fun r23 r24=>k0 (⟨r21,r23,r5,r7,r9,r11,r13,r15⟩:G_Contact) r24)))) else (bif (r19 == 1) then (g.z20z r20 [[],[66],[98,50,48]] (fun r25 r26=>k0 (⟨a2,r3,r25,r7,r9,r11,r13,r15⟩:G_Contact) r26)) else (bif (r19 == 2) then (g.Stream_Odd r20 0 99999 (fun r27 r28=>(g.Stream_Odd r28 0 99999 (fun r29 r30=>k0 (⟨a2,r3,r5,r7,r27,r29,r13,r15⟩:G_Contact) r30)))) else (g.z20z r20 [[],[65]] (fun r31 r32=>(g.z20z r32 [[49],[117,115,97]] (fun r33 r34=>k0 (⟨a2,r3,r5,r7,r9,r11,r31,r33⟩:G_Contact) r34))))))))) else k0 (⟨a2,r3,r5,r7,r9,r11,r13,r15⟩:G_Contact) r18)))))))))))))))))
noncomputable def yuvy [Fuel]:C_z53z:=⟨NN,@z45z _,@z29z _,@z75z _,@z20z _,@z48z _,@Stream_Odd _⟩
noncomputable def z53z [Fuel]:ytgy:=@z53z_ yuvy
def ynHy (g:ytgy):Spec A:=fun args=>match args with | [.box [.d (.sl 3 a1),.d (.int .i64 a2)],.d (.int .i64 a3)]=>fun k=>g ⟨a1,a2⟩ a3 (fun z0 z1=>k (.agg [.d (.int .i64 z0.f_At),.d (.int .i64 z0.f_Mode),.d (.str z0.f_Band),.d (.str z0.f_Call),.d (.int .i64 z0.f_Sent),.d (.int .i64 z0.f_Heard),.d (.str z0.f_Gave),.d (.str z0.f_Got)]) [.box [.d (.sl 3 z1.f_L),.d (.int .i64 z1.f_at)],.undef]) | _=>fun _=>none
noncomputable def yFMy:Code:=(Tryz.f45.body).getD .skip
noncomputable def yINy (g:C_z53z):Env A:=mkE [(44,ygdy g.z45z),(50,ydny g.z29z),(69,yn8y g.z75z),(70,yhSy g.z20z),(71,ygky g.z48z),(72,ydly g.Stream_Odd)] [(4,[1]),(5,[8]),(8,[2]),(11,[3]),(16,[4]),(19,[5]),(22,[6]),(25,[7]),(33,[10]),(36,[11]),(51,[9])] [] [] [] [] [] [] [] [0]
theorem yHHy (g:C_z53z):Same (ynHy (@z53z_ g)) (abody (yINy g) Tryz.f45 yFMy 12 [0] [.asis] g.N):=by intro args;unfold ynHy;split;exact .inr fun R k=>(by kernel_rfl);exact .inl fun R k=>rfl
theorem yyBy [Fuel]:Ok 45 (ynHy (@z53z _)):=yacy std (.cons yhOy (.cons yeYy (.cons yHly (.cons yofy (.cons yjIy (.cons yhby .nil)))))) ⟨rfl,rfl,by kernel_rfl,rfl,rfl,rfl⟩ (yHHy yuvy) (cuts0 (fun _=>rfl) (by kernel_rfl)) Tryz.func45 (by kernel_rfl) (by kernel_rfl)
abbrev yoPy:Type 1:=Int→{R:Type}→(Int→Option R)→Option R
def yrRy (g:Nat) (a1:Int) {R:Type} (k0:Int→Option R):Option R :=
 (bif (decide (a1 < 0)) then k0 (-1) else (bif (decide (a1 > 0)) then k0 1 else k0 0))
noncomputable def Q_sign [Fuel]:yoPy:=@yrRy NN
def yiWy (g:yoPy):Spec A:=fun args=>match args with | [.d (.int .i64 a1)]=>fun k=>g a1 (fun z0=>k (.d (.int .i64 z0)) [.undef]) | _=>fun _=>none
noncomputable def yDWy:Code:=(Tryz.f117.body).getD .skip
noncomputable def yDuy (g:Nat):Env A:=mkE [] [] [] [] [] [] [] [] [] []
theorem yAMy (g:Nat):Same (yiWy (@yrRy g)) (abody (yDuy g) Tryz.f117 yDWy 0 [] [.asis] g):=by intro args;unfold yiWy;split;exact .inr fun R k=>(by kernel_rfl);exact .inl fun R k=>rfl
theorem yCdy [Fuel]:Ok 117 (yiWy (@Q_sign _)):=yacy std .nil ⟨rfl,rfl,by kernel_rfl,rfl,rfl,rfl⟩ (yAMy NN) (cuts0 (fun _=>rfl) (by kernel_rfl)) Tryz.func117 (by kernel_rfl) (by kernel_rfl)
abbrev yb8y:Type 1:=List UInt8→List UInt8→{R:Type}→(Int→Option R)→Option R
def strings_Compare [Fuel]:yb8y:=@X_cmp
def ybCy (g:yb8y):Spec A:=yjUy g
theorem ydAy [Fuel]:Ok 118 (ybCy (@strings_Compare _)):=⟨ylzy (ysty (Any.strings_Compare Tryz.lays106)),yozy,enters_of (fn:=Tryz.f118) Tryz.func118 (by kernel_rfl) (by kernel_rfl)⟩
theorem ylQy [Fuel]:OkD 118 (ybCy (@strings_Compare _)):=⟨ylzy (ysty (Any.strings_Compare Tryz.lays106)),yozy,enters_of (fn:=Tryz.f118) Tryz.func118 (by kernel_rfl) (by kernel_rfl)⟩
abbrev T_z2z:Type 1:=G_Deed→G_Deed→{R:Type}→(Int→Option R)→Option R
structure C_z2z where
 N:Nat
 Q_sign:yoPy
 strings_Compare:yb8y
def z2z_ (g:C_z2z) (a1 a2:G_Deed) {R:Type} (k0:Int→Option R):Option R :=
 (bif (a1.f_At != a2.f_At) then (g.Q_sign (w64 (a1.f_At - a2.f_At)) (fun r3=>k0 r3)) else (bif (!(a1.f_Site == a2.f_Site)) then (g.strings_Compare a1.f_Site a2.f_Site (fun r4=>k0 r4)) else (g.Q_sign (w64 (a1.f_No - a2.f_No)) (fun r5=>k0 r5))))
noncomputable def I_z2z [Fuel]:C_z2z:=⟨NN,@Q_sign _,@strings_Compare _⟩
noncomputable def z2z [Fuel]:T_z2z:=@z2z_ I_z2z
def yl3y (g:T_z2z):Spec A:=fun args=>match args with | [.agg [.d (.str a1),.d (.int .i64 a2),.d (.int .i64 a3),.d (.int .i64 a4),.d (.int .i64 a5),.d (.int .i64 a6),.d (.str a7),.d (.str a8),.d (.int .i64 a9),.d (.int .i64 a10),.d (.str a11),.d (.str a12),.d (.str a13),.d (.str a14),.d (.int .i64 a15)],.agg [.d (.str a16),.d (.int .i64 a17),.d (.int .i64 a18),.d (.int .i64 a19),.d (.int .i64 a20),.d (.int .i64 a21),.d (.str a22),.d (.str a23),.d (.int .i64 a24),.d (.int .i64 a25),.d (.str a26),.d (.str a27),.d (.str a28),.d (.str a29),.d (.int .i64 a30)]]=>fun k=>g ⟨a1,a2,a3,a4,⟨a5,a6,a7,a8,a9,a10,a11,a12⟩,a13,a14,a15⟩ ⟨a16,a17,a18,a19,⟨a20,a21,a22,a23,a24,a25,a26,a27⟩,a28,a29,a30⟩ (fun z0=>k (.d (.int .i64 z0)) [.undef,.undef]) | _=>fun _=>none
noncomputable def yDMy:Code:=(Tryz.f105.body).getD .skip
noncomputable def E_z2z (g:C_z2z):Env A:=mkE [(117,yiWy g.Q_sign),(118,ybCy g.strings_Compare)] [(2,[0]),(3,[1])] [] [] [] [] [] [] [] []
theorem yH2y (g:C_z2z):Same (yl3y (@z2z_ g)) (abody (E_z2z g) Tryz.f105 yDMy 2 [] [.asis] g.N):=by intro args;unfold yl3y;split;exact .inr fun R k=>(by kernel_rfl);exact .inl fun R k=>rfl
theorem yqLy [Fuel]:Ok 105 (yl3y (@z2z _)):=yacy std (.cons yCdy (.cons ydAy .nil)) ⟨rfl,rfl,by kernel_rfl,rfl,rfl,rfl⟩ (yH2y I_z2z) (cuts0 (fun _=>rfl) (by kernel_rfl)) Tryz.func105 (by kernel_rfl) (by kernel_rfl)
abbrev T_z1z:Type 1:=List G_Deed→Int→Int→{R:Type}→(List G_Deed→Option R)→Option R
structure C_z1z where
 N:Nat
 z2z:T_z2z
def z1z_L4 (g:C_z1z):Nat→Int→Int→Int→Int→List G_Deed→{R:Type}→(Int→Int→Int→List G_Deed→Option R)→Option R
 | 0,_,_,_,_,_,_,_=>none
 | n + 1,v31,v32,v33,v34,v35,_,e0=>(bif (decide (v34 > v31)) then (inr v35 v34 (at_ v35 v34 fun x43=>(inr v35 (w64 (v34 - 1)) (at_ v35 (w64 (v34 - 1)) fun x44=>(g.z2z x43 x44 (fun r45=>(bif (decide (r45 < 0)) then (inr v35 (w64 (v34 - 1)) (at_ v35 (w64 (v34 - 1)) fun x46=>(inr v35 v34 (at_ v35 v34 fun x47=>(inr v35 v34 (at_ v35 v34 fun x48=>(inr (set_ v35 v34 x46) (w64 (v34 - 1)) (at_ (set_ v35 v34 x46) (w64 (v34 - 1)) fun x49=>z1z_L4 g n v31 v32 v33 (w64 (v34 - 1)) (set_ (set_ v35 v34 x46) (w64 (v34 - 1)) x47) e0)))))))) else e0 v31 v32 v33 v35))))))) else e0 v31 v32 v33 v35)
def z1z_L1 (g:C_z1z):Nat→Int→Int→Int→List G_Deed→{R:Type}→(List G_Deed→Option R)→Option R
 | 0,_,_,_,_,_,_=>none
 | n + 1,v4,v5,v6,v7,_,e0=>(bif (decide (v6 < v5)) then (z1z_L4 g g.N v4 v5 v6 v6 v7 (fun e50 e51 e52 e53=>z1z_L1 g n e50 e51 (w64 (e52 + 1)) e53 e0)) else e0 v7)
def z1z_ (g:C_z1z) (a1:List G_Deed) (a2 a3:Int) {R:Type} (k0:List G_Deed→Option R):Option R :=
 (z1z_L1 g g.N a2 a3 (w64 (a2 + 1)) a1 (fun e54=>k0 e54))
noncomputable def I_z1z [Fuel]:C_z1z:=⟨NN,@z2z _⟩
noncomputable def z1z [Fuel]:T_z1z:=@z1z_ I_z1z
def yqky (g:T_z1z):Spec A:=fun args=>match args with | [.arr 71 a1,.d (.int .i64 a2),.d (.int .i64 a3),.fn 105 []]=>fun k=>g a1 a2 a3 (fun z0=>k (.tup []) [.arr 71 z0,.undef,.undef,.fn 105 []]) | _=>fun _=>none
def ylTy:SSt:=mkSh 53 1 [(0,.own 71 0),(1,.int .i64),(2,.int .i64),(3,.fn 105 []),(8,.int .i64),(9,.int .i64)] [(0,.row 71)]
def yhay (g:C_z1z) (n:Nat):LPT A:=fun ps=>match ps with | [.d (.int .i64 p1),.d (.int .i64 p2),.d (.int .i64 p3),.d (.int .i64 p4),.d (.sl 71 p5)]=>fun K=>z1z_L4 g n p1 p2 p3 p4 p5 (fun z0 z1 z2 z3=>K (.exit 2) (mkSt 53 1 [(0,.own 71 0),(1,.d (.int .i64 z0)),(2,.d (.int .i64 z1)),(3,.fn 105 []),(8,.d (.int .i64 z2))] [(0,some (.row 71 z3))])) | _=>fun _=>none
def ymHy:SSt:=mkSh 53 1 [(0,.own 71 0),(1,.int .i64),(2,.int .i64),(3,.fn 105 []),(8,.int .i64)] [(0,.row 71)]
def yg3y (g:C_z1z) (n:Nat):LPT A:=fun ps=>match ps with | [.d (.int .i64 p1),.d (.int .i64 p2),.d (.int .i64 p3),.d (.sl 71 p4)]=>fun K=>z1z_L1 g n p1 p2 p3 p4 (fun z0=>K (.exit 0) (mkSt 53 1 [(0,.own 71 0),(3,.fn 105 [])] [(0,some (.row 71 z0))])) | _=>fun _=>none
noncomputable def yphy:Code:=(Tryz.f203.body).getD .skip
noncomputable def E_z1z (g:C_z1z):Env A:=mkE [(105,yl3y g.z2z)] [] [(4,⟨[0,1,2,3,8,9],[],[0],[],[],[],[]⟩),(1,⟨[0,1,2,3,8],[],[0],[],[],[],[]⟩)] [(4,⟨[0,1,2,3,8],[],[0],[],[],[],[]⟩),(1,⟨[0,3],[],[0],[],[],[],[]⟩)] [(4,yajy ylTy (yhay g g.N)),(1,yajy ymHy (yg3y g g.N))] [] [] [] [] [0,3]
theorem yBgy [Fuel]:yahy (E_z1z I_z1z).C:=ct_of (P:=Tryz.prog) (T:=T) (.cons yqLy .nil) (by kernel_rfl)
noncomputable def yrVy:Code:=sub [1,0,0,1,0,0,1,0,0] yphy
theorem yDmy (g:C_z1z) (n:Nat):yaCy (E_z1z g) g.N yrVy ylTy (yhay g) n:=by intro ps;unfold yhay;split;exact .inr fun R K=>(by kernel_rfl);exact .inl fun R K=>rfl
theorem ysdy [Fuel]:yaiy (E_z1z I_z1z) NN yrVy:=yamy ylTy (yhay I_z1z) (by kernel_rfl) yBgy (cuts0 (fun _=>rfl) (by kernel_rfl)) (fun ps R K=>by unfold yhay;split <;> (try unfold z1z_L4) <;> rfl) (yDmy I_z1z)
noncomputable def yr6y:Code:=sub [1,0,0] yphy
theorem yDGy (g:C_z1z) (n:Nat):yaCy (E_z1z g) g.N yr6y ymHy (yg3y g) n:=by intro ps;unfold yg3y;split;exact .inr fun R K=>(by kernel_rfl);exact .inl fun R K=>rfl
theorem yByy [Fuel]:yaiy (E_z1z I_z1z) NN yr6y:=yamy ymHy (yg3y I_z1z) (by kernel_rfl) yBgy (cutsL (fun _=>rfl) (.cons ysdy .nil) (by kernel_rfl)) (fun ps R K=>by unfold yg3y;split <;> (try unfold z1z_L1) <;> rfl) (yDGy I_z1z)
theorem yIby (g:C_z1z):Same (yqky (@z1z_ g)) (abody (E_z1z g) Tryz.f203 yphy 1 [0] [] g.N):=by intro args;unfold yqky;split;exact .inr fun R k=>(by kernel_rfl);exact .inl fun R k=>rfl
theorem yCcy [Fuel]:Ok 203 (yqky (@z1z _)):=yacy std (.cons yqLy .nil) ⟨rfl,rfl,by kernel_rfl,rfl,rfl,rfl⟩ (yIby I_z1z) (cutsL (fun _=>rfl) (.cons ysdy (.cons yByy .nil)) (by kernel_rfl)) Tryz.func203 (by kernel_rfl) (by kernel_rfl)
abbrev T_z0z:Type 1:=List G_Deed→Int→{R:Type}→(List G_Deed→Option R)→Option R
structure C_z0z where
 N:Nat
 z1z:T_z1z
def z0z_L2 (g:C_z0z):Nat→Int→Int→Int→Int→List G_Deed→{R:Type}→(Int→Int→Int→List G_Deed→Option R)→Option R
 | 0,_,_,_,_,_,_,_=>none
 | n + 1,v3,v4,v5,v6,v7,_,e0=>(bif (decide (v6≤v3)) then (g.z1z v7 v5 v6 (fun r9=>z0z_L2 g n v3 v4 v6 (w64 (v6 + v4)) r9 e0)) else e0 v3 v4 v5 v7)
def z0z_L9 (g:C_z0z):Nat→Int→Int→Int→Int→List G_Deed→{R:Type}→(Int→Int→Int→List G_Deed→Option R)→Option R
 | 0,_,_,_,_,_,_,_=>none
 | n + 1,v27,v28,v29,v30,v31,_,e0=>(bif (decide (v30≤v27)) then none else e0 v27 v28 v29 v31)
def z0z_L7 (g:C_z0z):Nat→Int→Int→List G_Deed→{R:Type}→(List G_Deed→Option R)→Option R
 | 0,_,_,_,_,_=>none
 | n + 1,v15,v16,v17,_,e0=>(bif (decide (v16 < v15)) then (z0z_L9 g g.N v15 v16 0 (w64 (2 * v16)) v17 (fun e32 e33 e34 e35=>(bif (decide ((w64 (e34 + e33)) < e32)) then none else z0z_L7 g n e32 (w64 (e33 * 2)) e35 e0))) else e0 v17)
def z0z_ (g:C_z0z) (a1:List G_Deed) (a2:Int) {R:Type} (k0:List G_Deed→Option R):Option R :=
 (z0z_L2 g g.N a2 20 0 20 a1 (fun e10 e11 e12 e13=>(g.z1z e13 e12 e10 (fun r14=>(z0z_L7 g g.N e10 e11 r14 (fun e36=>k0 e36))))))
noncomputable def I_z0z [Fuel]:C_z0z:=⟨NN,@z1z _⟩
noncomputable def z0z [Fuel]:T_z0z:=@z0z_ I_z0z
def ypUy (g:T_z0z):Spec A:=fun args=>match args with | [.arr 71 a1,.d (.int .i64 a2),.fn 105 []]=>fun k=>g a1 a2 (fun z0=>k (.tup []) [.arr 71 z0,.undef,.fn 105 []]) | _=>fun _=>none
def ynay:SSt:=mkSh 63 1 [(0,.own 71 0),(1,.int .i64),(2,.fn 105 []),(6,.int .i64),(7,.int .i64),(8,.int .i64)] [(0,.row 71)]
def yg5y (g:C_z0z) (n:Nat):LPT A:=fun ps=>match ps with | [.d (.int .i64 p1),.d (.int .i64 p2),.d (.int .i64 p3),.d (.int .i64 p4),.d (.sl 71 p5)]=>fun K=>z0z_L2 g n p1 p2 p3 p4 p5 (fun z0 z1 z2 z3=>K (.exit 0) (mkSt 63 1 [(0,.own 71 0),(1,.d (.int .i64 z0)),(2,.fn 105 []),(6,.d (.int .i64 z1)),(7,.d (.int .i64 z2))] [(0,some (.row 71 z3))])) | _=>fun _=>none
def ymgy:SSt:=mkSh 63 1 [(0,.own 71 0),(1,.int .i64),(2,.fn 105 []),(6,.int .i64),(7,.int .i64),(8,.int .i64)] [(0,.row 71)]
def ygVy (g:C_z0z) (n:Nat):LPT A:=fun ps=>match ps with | [.d (.int .i64 p1),.d (.int .i64 p2),.d (.int .i64 p3),.d (.int .i64 p4),.d (.sl 71 p5)]=>fun K=>z0z_L9 g n p1 p2 p3 p4 p5 (fun z0 z1 z2 z3=>K (.exit 4) (mkSt 63 1 [(0,.own 71 0),(1,.d (.int .i64 z0)),(2,.fn 105 []),(6,.d (.int .i64 z1)),(7,.d (.int .i64 z2))] [(0,some (.row 71 z3))])) | _=>fun _=>none
def ymPy:SSt:=mkSh 63 1 [(0,.own 71 0),(1,.int .i64),(2,.fn 105 []),(6,.int .i64)] [(0,.row 71)]
def yg6y (g:C_z0z) (n:Nat):LPT A:=fun ps=>match ps with | [.d (.int .i64 p1),.d (.int .i64 p2),.d (.sl 71 p3)]=>fun K=>z0z_L7 g n p1 p2 p3 (fun z0=>K (.exit 2) (mkSt 63 1 [(0,.own 71 0),(2,.fn 105 [])] [(0,some (.row 71 z0))])) | _=>fun _=>none
noncomputable def ykGy:Code:=(Tryz.f157.body).getD .skip
noncomputable def E_z0z (g:C_z0z):Env A:=mkE [(203,yqky g.z1z)] [] [(2,⟨[0,1,2,6,7,8],[],[0],[],[],[],[]⟩),(9,⟨[0,1,2,6,7,8],[],[0],[],[],[],[]⟩),(7,⟨[0,1,2,6],[],[0],[],[],[],[]⟩)] [(2,⟨[0,1,2,6,7],[],[0],[],[],[],[]⟩),(9,⟨[0,1,2,6,7],[],[0],[],[],[],[]⟩),(7,⟨[0,2],[],[0],[],[],[],[]⟩)] [(2,yajy ynay (yg5y g g.N)),(9,yajy ymgy (ygVy g g.N)),(7,yajy ymPy (yg6y g g.N))] [] [] [] [(203,0)] [0,2]
theorem ytpy [Fuel]:yahy (E_z0z I_z0z).C:=ct_of (P:=Tryz.prog) (T:=T) (.cons yCcy .nil) (by kernel_rfl)
noncomputable def ysny:Code:=sub [1,1,0,0,0] ykGy
theorem yDHy (g:C_z0z) (n:Nat):yaCy (E_z0z g) g.N ysny ynay (yg5y g) n:=by intro ps;unfold yg5y;split;exact .inr fun R K=>(by kernel_rfl);exact .inl fun R K=>rfl
theorem yBky [Fuel]:yaiy (E_z0z I_z0z) NN ysny:=yamy ynay (yg5y I_z0z) (by kernel_rfl) ytpy (cuts0 (fun _=>rfl) (by kernel_rfl)) (fun ps R K=>by unfold yg5y;split <;> (try unfold z0z_L2) <;> rfl) (yDHy I_z0z)
noncomputable def ysCy:Code:=sub [1,1,1,1,0,0,1,0,1,0,0,0] ykGy
theorem yD2y (g:C_z0z) (n:Nat):yaCy (E_z0z g) g.N ysCy ymgy (ygVy g) n:=by intro ps;unfold ygVy;split;exact .inr fun R K=>(by kernel_rfl);exact .inl fun R K=>rfl
theorem ysBy [Fuel]:yaiy (E_z0z I_z0z) NN ysCy:=yamy ymgy (ygVy I_z0z) (by kernel_rfl) ytpy (cuts0 (fun _=>rfl) (by kernel_rfl)) (fun ps R K=>by unfold ygVy;split <;> (try unfold z0z_L9) <;> rfl) (yD2y I_z0z)
noncomputable def yr5y:Code:=sub [1,1,1,1,0,0] ykGy
theorem yD3y (g:C_z0z) (n:Nat):yaCy (E_z0z g) g.N yr5y ymPy (yg6y g) n:=by intro ps;unfold yg6y;split;exact .inr fun R K=>(by kernel_rfl);exact .inl fun R K=>rfl
theorem yBMy [Fuel]:yaiy (E_z0z I_z0z) NN yr5y:=yamy ymPy (yg6y I_z0z) (by kernel_rfl) ytpy (cutsL (fun _=>rfl) (.cons ysBy .nil) (by kernel_rfl)) (fun ps R K=>by unfold yg6y;split <;> (try unfold z0z_L7) <;> rfl) (yD3y I_z0z)
theorem yJqy (g:C_z0z):Same (ypUy (@z0z_ g)) (abody (E_z0z g) Tryz.f157 ykGy 1 [0] [] g.N):=by intro args;unfold ypUy;split;exact .inr fun R k=>(by kernel_rfl);exact .inl fun R k=>rfl
theorem yJwy [Fuel]:Ok 157 (ypUy (@z0z _)):=yacy std (.cons yCcy .nil) ⟨rfl,rfl,by kernel_rfl,rfl,rfl,rfl⟩ (yJqy I_z0z) (cutsL (fun _=>rfl) (.cons yBky (.cons ysBy (.cons yBMy .nil))) (by kernel_rfl)) Tryz.func157 (by kernel_rfl) (by kernel_rfl)
abbrev ywly:Type 1:=List G_Deed→{R:Type}→(List G_Deed→Option R)→Option R
structure C_z19z where
 N:Nat
 z0z:T_z0z
def z19z_ (g:C_z19z) (a1:List G_Deed) {R:Type} (k0:List G_Deed→Option R):Option R :=
 (g.z0z a1 (a1.length:Int) (fun r2=>k0 r2))
noncomputable def ywey [Fuel]:C_z19z:=⟨NN,@z0z _⟩
noncomputable def z19z [Fuel]:ywly:=@z19z_ ywey
def ynNy (g:ywly):Spec A:=fun args=>match args with | [.arr 71 a1,.fn 105 []]=>fun k=>g a1 (fun z0=>k (.tup []) [.arr 71 z0,.fn 105 []]) | _=>fun _=>none
noncomputable def yCxy:Code:=(Tryz.f104.body).getD .skip
noncomputable def yI1y (g:C_z19z):Env A:=mkE [(157,ypUy g.z0z)] [] [] [] [] [] [] [] [(157,0)] [0,1]
theorem yGFy (g:C_z19z):Same (ynNy (@z19z_ g)) (abody (yI1y g) Tryz.f104 yCxy 1 [0] [] g.N):=by intro args;unfold ynNy;split;exact .inr fun R k=>(by kernel_rfl);exact .inl fun R k=>rfl
theorem yyWy [Fuel]:Ok 104 (ynNy (@z19z _)):=yacy std (.cons yJwy .nil) ⟨rfl,rfl,by kernel_rfl,rfl,rfl,rfl⟩ (yGFy ywey) (cuts0 (fun _=>rfl) (by kernel_rfl)) Tryz.func104 (by kernel_rfl) (by kernel_rfl)
end Go.Am
