/- The functions of the program as Lean functions, each shown to be what the code computes, part 1. No condition: lemmas for the claim. -/
import Derived.Test.YtmhbhdhddlbdlaaGreatDoorF0
import Derived.Test.YtmhbhdhddlbdlaaGreatDoorFSh
set_option linter.unusedVariables false
set_option maxRecDepth 100000
namespace Go.Am
open Go Go.Proofs
abbrev ynFy:Type 1:=Int→Int→{R:Type}→(Int→Option R)→Option R
def yqmy (g:Nat) (a1 a2:Int) {R:Type} (k0:Int→Option R):Option R :=
 (bif (decide (a2 < 1)) then k0 0 else (bif (a2 == 0) then none else (bif (decide ((Int.tmod a1 a2) < 0)) then k0 (w64 ((Int.tmod a1 a2) + a2)) else k0 (Int.tmod a1 a2))))
noncomputable def M_Below [Fuel]:ynFy:=@yqmy NN
def yh2y (g:ynFy):Spec A:=fun args=>match args with | [.d (.int .i64 a1),.d (.int .i64 a2)]=>fun k=>g a1 a2 (fun z0=>k (.d (.int .i64 z0)) [.undef,.undef]) | _=>fun _=>none
noncomputable def yJ9y:Code:=(Tryz.f61.body).getD .skip
noncomputable def yFGy (g:Nat):Env A:=mkE [] [] [] [] [] [] [] [] [] []
theorem yDAy (g:Nat):Same (yh2y (@yqmy g)) (abody (yFGy g) Tryz.f61 yJ9y 0 [] [.asis] g):=by intro args;unfold yh2y;split;exact .inr fun R k=>(by kernel_rfl);exact .inl fun R k=>rfl
theorem yB2y [Fuel]:Ok 61 (yh2y (@M_Below _)):=yacy std .nil ⟨rfl,rfl,by kernel_rfl,rfl,rfl,rfl⟩ (yDAy NN) (cuts0 (fun _=>rfl) (by kernel_rfl)) Tryz.func61 (by kernel_rfl) (by kernel_rfl)
abbrev yf5y:Type 1:=G_Stream→Int→{R:Type}→(Int→G_Stream→Option R)→Option R
structure C_z42z where
 N:Nat
 M_Below:ynFy
def z42z_ (g:C_z42z) (a1:G_Stream) (a2:Int) {R:Type} (k0:Int→G_Stream→Option R):Option R :=
 (bif ((a1.f_L.length:Int) == 0) then (g.M_Below (w64 ((w64 (a1.f_at + 1)) * 7919)) a2 (fun r3=>k0 r3 (⟨a1.f_L,(w64 (a1.f_at + 1))⟩:G_Stream))) else (bif ((a1.f_L.length:Int) == 0) then none else (bif ((a1.f_L.length:Int) == 0) then none else (get_ a1.f_L (Int.tmod (w64 ((w64 (a1.f_at + 1)) - 1)) (a1.f_L.length:Int)) fun x4=>(g.M_Below x4 1073741824 (fun r5=>(g.M_Below (w64 (r5 + (w64 ((w64 (Int.tdiv (w64 ((w64 (a1.f_at + 1)) - 1)) (a1.f_L.length:Int))) * (w64 (7919 + (Int.tmod (w64 ((w64 (a1.f_at + 1)) - 1)) (a1.f_L.length:Int)))))))) a2 (fun r6=>k0 r6 (⟨a1.f_L,(w64 (a1.f_at + 1))⟩:G_Stream)))))))))
noncomputable def yyHy [Fuel]:C_z42z:=⟨NN,@M_Below _⟩
noncomputable def z42z [Fuel]:yf5y:=@z42z_ yyHy
def ydwy (g:yf5y):Spec A:=fun args=>match args with | [.box [.d (.sl 3 a1),.d (.int .i64 a2)],.d (.int .i64 a3)]=>fun k=>g ⟨a1,a2⟩ a3 (fun z0 z1=>k (.d (.int .i64 z0)) [.box [.d (.sl 3 z1.f_L),.d (.int .i64 z1.f_at)],.undef]) | _=>fun _=>none
noncomputable def yK9y:Code:=(Tryz.f23.body).getD .skip
noncomputable def yMZy (g:C_z42z):Env A:=mkE [(61,yh2y g.M_Below)] [] [] [] [] [] [] [] [] [0]
theorem yKGy (g:C_z42z):Same (ydwy (@z42z_ g)) (abody (yMZy g) Tryz.f23 yK9y 1 [0] [.asis] g.N):=by intro args;unfold ydwy;split;exact .inr fun R k=>(by kernel_rfl);exact .inl fun R k=>rfl
theorem yd1y [Fuel]:Ok 23 (ydwy (@z42z _)):=yacy std (.cons yB2y .nil) ⟨rfl,rfl,by kernel_rfl,rfl,rfl,rfl⟩ (yKGy yyHy) (cuts0 (fun _=>rfl) (by kernel_rfl)) Tryz.func23 (by kernel_rfl) (by kernel_rfl)
abbrev ynpy:Type 1:=G_Stream→Int→Int→{R:Type}→(Int→G_Stream→Option R)→Option R
structure C_z52z where
 N:Nat
 z42z:yf5y
def z52z_ (g:C_z52z) (a1:G_Stream) (a2 a3:Int) {R:Type} (k0:Int→G_Stream→Option R):Option R :=
 (bif (decide (a3 < a2)) then k0 a2 a1 else (g.z42z a1 (w64 ((w64 (a3 - a2)) + 1)) (fun r4 r5=>k0 (w64 (a2 + r4)) r5)))
noncomputable def yvzy [Fuel]:C_z52z:=⟨NN,@z42z _⟩
noncomputable def z52z [Fuel]:ynpy:=@z52z_ yvzy
def yisy (g:ynpy):Spec A:=fun args=>match args with | [.box [.d (.sl 3 a1),.d (.int .i64 a2)],.d (.int .i64 a3),.d (.int .i64 a4)]=>fun k=>g ⟨a1,a2⟩ a3 a4 (fun z0 z1=>k (.d (.int .i64 z0)) [.box [.d (.sl 3 z1.f_L),.d (.int .i64 z1.f_at)],.undef,.undef]) | _=>fun _=>none
noncomputable def yNgy:Code:=(Tryz.f6.body).getD .skip
noncomputable def yNvy (g:C_z52z):Env A:=mkE [(23,ydwy g.z42z)] [] [] [] [] [] [] [] [] [0]
theorem yLEy (g:C_z52z):Same (yisy (@z52z_ g)) (abody (yNvy g) Tryz.f6 yNgy 1 [0] [.asis] g.N):=by intro args;unfold yisy;split;exact .inr fun R k=>(by kernel_rfl);exact .inl fun R k=>rfl
theorem ykGy [Fuel]:Ok 6 (yisy (@z52z _)):=yacy std (.cons yd1y .nil) ⟨rfl,rfl,by kernel_rfl,rfl,rfl,rfl⟩ (yLEy yvzy) (cuts0 (fun _=>rfl) (by kernel_rfl)) Tryz.func6 (by kernel_rfl) (by kernel_rfl)
abbrev ymRy:Type 1:=G_Stream→List Int→{R:Type}→(Int→G_Stream→Option R)→Option R
structure C_z66z where
 N:Nat
 z42z:yf5y
def z66z_ (g:C_z66z) (a1:G_Stream) (a2:List Int) {R:Type} (k0:Int→G_Stream→Option R):Option R :=
 (g.z42z a1 (a2.length:Int) (fun r3 r4=>(get_ a2 r3 fun x5=>k0 x5 r4)))
noncomputable def ywly [Fuel]:C_z66z:=⟨NN,@z42z _⟩
noncomputable def z66z [Fuel]:ymRy:=@z66z_ ywly
def yimy (g:ymRy):Spec A:=fun args=>match args with | [.box [.d (.sl 3 a1),.d (.int .i64 a2)],.d (.sl 3 a3)]=>fun k=>g ⟨a1,a2⟩ a3 (fun z0 z1=>k (.d (.int .i64 z0)) [.box [.d (.sl 3 z1.f_L),.d (.int .i64 z1.f_at)],.undef]) | _=>fun _=>none
noncomputable def yJDy:Code:=(Tryz.f51.body).getD .skip
noncomputable def yMOy (g:C_z66z):Env A:=mkE [(23,ydwy g.z42z)] [] [] [] [] [] [] [] [] [0]
theorem yL6y (g:C_z66z):Same (yimy (@z66z_ g)) (abody (yMOy g) Tryz.f51 yJDy 1 [0] [.asis] g.N):=by intro args;unfold yimy;split;exact .inr fun R k=>(by kernel_rfl);exact .inl fun R k=>rfl
theorem yoBy [Fuel]:Ok 51 (yimy (@z66z _)):=yacy std (.cons yd1y .nil) ⟨rfl,rfl,by kernel_rfl,rfl,rfl,rfl⟩ (yL6y ywly) (cuts0 (fun _=>rfl) (by kernel_rfl)) Tryz.func51 (by kernel_rfl) (by kernel_rfl)
abbrev ynIy:Type 1:=G_Stream→List (List UInt8)→{R:Type}→(List UInt8→G_Stream→Option R)→Option R
structure C_z21z where
 N:Nat
 z42z:yf5y
def z21z_ (g:C_z21z) (a1:G_Stream) (a2:List (List UInt8)) {R:Type} (k0:List UInt8→G_Stream→Option R):Option R :=
 (g.z42z a1 (a2.length:Int) (fun r3 r4=>(get_ a2 r3 fun x5=>k0 x5 r4)))
noncomputable def ywTy [Fuel]:C_z21z:=⟨NN,@z42z _⟩
noncomputable def z21z [Fuel]:ynIy:=@z21z_ ywTy
def yiqy (g:ynIy):Spec A:=fun args=>match args with | [.box [.d (.sl 3 a1),.d (.int .i64 a2)],.d (.sl 9 a3)]=>fun k=>g ⟨a1,a2⟩ a3 (fun z0 z1=>k (.d (.str z0)) [.box [.d (.sl 3 z1.f_L),.d (.int .i64 z1.f_at)],.undef]) | _=>fun _=>none
noncomputable def yJGy:Code:=(Tryz.f53.body).getD .skip
noncomputable def yMWy (g:C_z21z):Env A:=mkE [(23,ydwy g.z42z)] [] [] [] [] [] [] [] [] [0]
theorem yKcy (g:C_z21z):Same (yiqy (@z21z_ g)) (abody (yMWy g) Tryz.f53 yJGy 1 [0] [.asis] g.N):=by intro args;unfold yiqy;split;exact .inr fun R k=>(by kernel_rfl);exact .inl fun R k=>rfl
theorem yo0y [Fuel]:Ok 53 (yiqy (@z21z _)):=yacy std (.cons yd1y .nil) ⟨rfl,rfl,by kernel_rfl,rfl,rfl,rfl⟩ (yKcy ywTy) (cuts0 (fun _=>rfl) (by kernel_rfl)) Tryz.func53 (by kernel_rfl) (by kernel_rfl)
abbrev yldy:Type 1:=G_Stream→Int→{R:Type}→(Bool→G_Stream→Option R)→Option R
structure C_z59z where
 N:Nat
 z42z:yf5y
def z59z_ (g:C_z59z) (a1:G_Stream) (a2:Int) {R:Type} (k0:Bool→G_Stream→Option R):Option R :=
 (g.z42z a1 a2 (fun r3 r4=>k0 (r3 == 0) r4))
noncomputable def yx0y [Fuel]:C_z59z:=⟨NN,@z42z _⟩
noncomputable def z59z [Fuel]:yldy:=@z59z_ yx0y
def ygTy (g:yldy):Spec A:=fun args=>match args with | [.box [.d (.sl 3 a1),.d (.int .i64 a2)],.d (.int .i64 a3)]=>fun k=>g ⟨a1,a2⟩ a3 (fun z0 z1=>k (.d (.bool z0)) [.box [.d (.sl 3 z1.f_L),.d (.int .i64 z1.f_at)],.undef]) | _=>fun _=>none
noncomputable def yKvy:Code:=(Tryz.f54.body).getD .skip
noncomputable def yMIy (g:C_z59z):Env A:=mkE [(23,ydwy g.z42z)] [] [] [] [] [] [] [] [] [0]
theorem yLzy (g:C_z59z):Same (ygTy (@z59z_ g)) (abody (yMIy g) Tryz.f54 yKvy 1 [0] [.asis] g.N):=by intro args;unfold ygTy;split;exact .inr fun R k=>(by kernel_rfl);exact .inl fun R k=>rfl
theorem yk3y [Fuel]:Ok 54 (ygTy (@z59z _)):=yacy std (.cons yd1y .nil) ⟨rfl,rfl,by kernel_rfl,rfl,rfl,rfl⟩ (yLzy yx0y) (cuts0 (fun _=>rfl) (by kernel_rfl)) Tryz.func54 (by kernel_rfl) (by kernel_rfl)
abbrev yyMy:Type 1:=G_Stream→{R:Type}→(List UInt8→G_Stream→Option R)→Option R
structure C_z83z where
 N:Nat
 z21z:ynIy
 z59z:yldy
def z83z_ (g:C_z83z) (a1:G_Stream) {R:Type} (k0:List UInt8→G_Stream→Option R):Option R :=
 (g.z59z a1 60 (fun r2 r3=>(bif r2 then (g.z21z r3 [[],[107,49],[75,49,65,66],[107,49,97,98,47],[49,97],[107,49,97,98,47,109,109,47,112]] (fun r4 r5=>k0 r4 r5)) else (g.z21z r3 [[107,49,97,98],[107,49,97,97],[107,49,97,98,47,52],[111,104,50,97,98,99],[111,104,50,97,98,100],[119,49,97,119],[110,49,109,109],[103,51,120,121,122,47,112]] (fun r6 r7=>k0 r6 r7)))))
noncomputable def ysOy [Fuel]:C_z83z:=⟨NN,@z21z _,@z59z _⟩
noncomputable def z83z [Fuel]:yyMy:=@z83z_ ysOy
def yo2y (g:yyMy):Spec A:=fun args=>match args with | [.box [.d (.sl 3 a1),.d (.int .i64 a2)]]=>fun k=>g ⟨a1,a2⟩ (fun z0 z1=>k (.d (.str z0)) [.box [.d (.sl 3 z1.f_L),.d (.int .i64 z1.f_at)]]) | _=>fun _=>none
noncomputable def yIGy:Code:=(Tryz.f52.body).getD .skip
noncomputable def yNQy (g:C_z83z):Env A:=mkE [(53,yiqy g.z21z),(54,ygTy g.z59z)] [(6,[1]),(9,[2])] [] [] [] [] [] [] [] [0]
theorem yI8y (g:C_z83z):Same (yo2y (@z83z_ g)) (abody (yNQy g) Tryz.f52 yIGy 3 [0] [.asis] g.N):=by intro args;unfold yo2y;split;exact .inr fun R k=>(by kernel_rfl);exact .inl fun R k=>rfl
theorem yIuy [Fuel]:Ok 52 (yo2y (@z83z _)):=yacy std (.cons yo0y (.cons yk3y .nil)) ⟨rfl,rfl,by kernel_rfl,rfl,rfl,rfl⟩ (yI8y ysOy) (cuts0 (fun _=>rfl) (by kernel_rfl)) Tryz.func52 (by kernel_rfl) (by kernel_rfl)
abbrev yfzy:Type 1:=G_Stream→Int→Int→{R:Type}→(Int→G_Stream→Option R)→Option R
structure C_Stream_Odd where
 N:Nat
 z52z:ynpy
 z66z:ymRy
 z59z:yldy
def yg6y (g:C_Stream_Odd) (a1:G_Stream) (a2 a3:Int) {R:Type} (k0:Int→G_Stream→Option R):Option R :=
 (g.z59z a1 12 (fun r4 r5=>(bif r4 then (g.z66z r5 [(w64 (a2 - 1)),(w64 (a3 + 1)),a2,a3,(-1099511627776),1099511627776] (fun r6 r7=>k0 r6 r7)) else (g.z52z r5 a2 a3 (fun r8 r9=>k0 r8 r9)))))
noncomputable def yfLy [Fuel]:C_Stream_Odd:=⟨NN,@z52z _,@z66z _,@z59z _⟩
noncomputable def Stream_Odd [Fuel]:yfzy:=@yg6y yfLy
def ydky (g:yfzy):Spec A:=fun args=>match args with | [.box [.d (.sl 3 a1),.d (.int .i64 a2)],.d (.int .i64 a3),.d (.int .i64 a4)]=>fun k=>g ⟨a1,a2⟩ a3 a4 (fun z0 z1=>k (.d (.int .i64 z0)) [.box [.d (.sl 3 z1.f_L),.d (.int .i64 z1.f_at)],.undef,.undef]) | _=>fun _=>none
noncomputable def yKJy:Code:=(Tryz.f55.body).getD .skip
noncomputable def yxXy (g:C_Stream_Odd):Env A:=mkE [(6,yisy g.z52z),(51,yimy g.z66z),(54,ygTy g.z59z)] [(16,[1])] [] [] [] [] [] [] [] [0]
theorem yuIy (g:C_Stream_Odd):Same (ydky (@yg6y g)) (abody (yxXy g) Tryz.f55 yKJy 2 [0] [.asis] g.N):=by intro args;unfold ydky;split;exact .inr fun R k=>(by kernel_rfl);exact .inl fun R k=>rfl
theorem yhKy [Fuel]:Ok 55 (ydky (@Stream_Odd _)):=yacy std (.cons ykGy (.cons yoBy (.cons yk3y .nil))) ⟨rfl,rfl,by kernel_rfl,rfl,rfl,rfl⟩ (yuIy yfLy) (cuts0 (fun _=>rfl) (by kernel_rfl)) Tryz.func55 (by kernel_rfl) (by kernel_rfl)
abbrev yw8y:Type 1:=G_Stream→Int→{R:Type}→(G_Contact→G_Stream→Option R)→Option R
structure C_z62z where
 N:Nat
 z42z:yf5y
 z66z:ymRy
 z83z:yyMy
 z21z:ynIy
 z59z:yldy
 Stream_Odd:yfzy
def z62z_ (g:C_z62z) (a1:G_Stream) (a2:Int) {R:Type} (k0:G_Contact→G_Stream→Option R):Option R :=
 (g.z66z a1 [1,1,2,3] (fun r3 r4=>(g.z21z r4 [[98,50,48],[98,50,48],[98,52,48]] (fun r5 r6=>(g.z83z r6 (fun r7 r8=>(g.z66z r8 [0,1,2,3,4,5,6,7] (fun r9 r10=>(g.z66z r10 [0,1,2,9] (fun r11 r12=>(g.z21z r12 [[],[],[102,105,110]] (fun r13 r14=>(g.z21z r14 [[],[],[117,115,97]] (fun r15 r16=>(g.z59z r16 100 (fun r17 r18=>(bif r17 then (g.z42z r18 4 (fun r19 r20=>(bif (r19 == 0) then (g.Stream_Odd r20 0 500 (fun r21 r22=>(g.Stream_Odd r22 1 3 (fun r23 r24=>k0 (⟨r21,r23,r5,r7,r9,r11,r13,r15⟩:G_Contact) r24)))) else (bif (r19 == 1) then (g.z21z r20 [[],[66],[98,50,48]] (fun r25 r26=>k0 (⟨a2,r3,r25,r7,r9,r11,r13,r15⟩:G_Contact) r26)) else (bif (r19 == 2) then (g.Stream_Odd r20 0 99999 (fun r27 r28=>(g.Stream_Odd r28 0 99999 (fun r29 r30=>k0 (⟨a2,r3,r5,r7,r27,r29,r13,r15⟩:G_Contact) r30)))) else (g.z21z r20 [[],[65]] (fun r31 r32=>(g.z21z r32 [[49],[117,115,97]] (fun r33 r34=>k0 (⟨a2,r3,r5,r7,r9,r11,r31,r33⟩:G_Contact) r34))))))))) else k0 (⟨a2,r3,r5,r7,r9,r11,r13,r15⟩:G_Contact) r18)))))))))))))))))
noncomputable def yxNy [Fuel]:C_z62z:=⟨NN,@z42z _,@z66z _,@z83z _,@z21z _,@z59z _,@Stream_Odd _⟩
noncomputable def z62z [Fuel]:yw8y:=@z62z_ yxNy
def yoTy (g:yw8y):Spec A:=fun args=>match args with | [.box [.d (.sl 3 a1),.d (.int .i64 a2)],.d (.int .i64 a3)]=>fun k=>g ⟨a1,a2⟩ a3 (fun z0 z1=>k (.agg [.d (.int .i64 z0.f_At),.d (.int .i64 z0.f_Mode),.d (.str z0.f_Band),.d (.str z0.f_Call),.d (.int .i64 z0.f_Sent),.d (.int .i64 z0.f_Heard),.d (.str z0.f_Gave),.d (.str z0.f_Got)]) [.box [.d (.sl 3 z1.f_L),.d (.int .i64 z1.f_at)],.undef]) | _=>fun _=>none
noncomputable def yKby:Code:=(Tryz.f90.body).getD .skip
noncomputable def yNpy (g:C_z62z):Env A:=mkE [(23,ydwy g.z42z),(51,yimy g.z66z),(52,yo2y g.z83z),(53,yiqy g.z21z),(54,ygTy g.z59z),(55,ydky g.Stream_Odd)] [(4,[1]),(5,[8]),(8,[2]),(11,[3]),(16,[4]),(19,[5]),(22,[6]),(25,[7]),(33,[10]),(36,[11]),(51,[9])] [] [] [] [] [] [] [] [0]
theorem yLCy (g:C_z62z):Same (yoTy (@z62z_ g)) (abody (yNpy g) Tryz.f90 yKby 12 [0] [.asis] g.N):=by intro args;unfold yoTy;split;exact .inr fun R k=>(by kernel_rfl);exact .inl fun R k=>rfl
theorem yAjy [Fuel]:Ok 90 (yoTy (@z62z _)):=yacy std (.cons yd1y (.cons yoBy (.cons yIuy (.cons yo0y (.cons yk3y (.cons yhKy .nil)))))) ⟨rfl,rfl,by kernel_rfl,rfl,rfl,rfl⟩ (yLCy yxNy) (cuts0 (fun _=>rfl) (by kernel_rfl)) Tryz.func90 (by kernel_rfl) (by kernel_rfl)
abbrev yqxy:Type 1:=Int→{R:Type}→(Int→Option R)→Option R
def ytsy (g:Nat) (a1:Int) {R:Type} (k0:Int→Option R):Option R :=
 (bif (decide (a1 < 0)) then k0 (-1) else (bif (decide (a1 > 0)) then k0 1 else k0 0))
noncomputable def Q_sign [Fuel]:yqxy:=@ytsy NN
def yjjy (g:yqxy):Spec A:=fun args=>match args with | [.d (.int .i64 a1)]=>fun k=>g a1 (fun z0=>k (.d (.int .i64 z0)) [.undef]) | _=>fun _=>none
noncomputable def yGXy:Code:=(Tryz.f149.body).getD .skip
noncomputable def yGzy (g:Nat):Env A:=mkE [] [] [] [] [] [] [] [] [] []
theorem yDWy (g:Nat):Same (yjjy (@ytsy g)) (abody (yGzy g) Tryz.f149 yGXy 0 [] [.asis] g):=by intro args;unfold yjjy;split;exact .inr fun R k=>(by kernel_rfl);exact .inl fun R k=>rfl
theorem yEfy [Fuel]:Ok 149 (yjjy (@Q_sign _)):=yacy std .nil ⟨rfl,rfl,by kernel_rfl,rfl,rfl,rfl⟩ (yDWy NN) (cuts0 (fun _=>rfl) (by kernel_rfl)) Tryz.func149 (by kernel_rfl) (by kernel_rfl)
abbrev ya8y:Type 1:=List UInt8→List UInt8→{R:Type}→(Int→Option R)→Option R
def strings_Compare [Fuel]:ya8y:=@X_cmp
def yaDy (g:ya8y):Spec A:=ykPy g
theorem ybly [Fuel]:Ok 70 (yaDy (@strings_Compare _)):=⟨ymBy (yuhy (Any.strings_Compare Tryz.lays106)),ypHy,enters_of (fn:=Tryz.f70) Tryz.func70 (by kernel_rfl) (by kernel_rfl)⟩
theorem ydBy [Fuel]:OkD 70 (yaDy (@strings_Compare _)):=⟨ymBy (yuhy (Any.strings_Compare Tryz.lays106)),ypHy,enters_of (fn:=Tryz.f70) Tryz.func70 (by kernel_rfl) (by kernel_rfl)⟩
abbrev T_z2z:Type 1:=G_Deed→G_Deed→{R:Type}→(Int→Option R)→Option R
structure C_z2z where
 N:Nat
 strings_Compare:ya8y
 Q_sign:yqxy
def z2z_ (g:C_z2z) (a1 a2:G_Deed) {R:Type} (k0:Int→Option R):Option R :=
 (bif (a1.f_At != a2.f_At) then (g.Q_sign (w64 (a1.f_At - a2.f_At)) (fun r3=>k0 r3)) else (bif (!(a1.f_Site == a2.f_Site)) then (g.strings_Compare a1.f_Site a2.f_Site (fun r4=>k0 r4)) else (g.Q_sign (w64 (a1.f_No - a2.f_No)) (fun r5=>k0 r5))))
noncomputable def I_z2z [Fuel]:C_z2z:=⟨NN,@strings_Compare _,@Q_sign _⟩
noncomputable def z2z [Fuel]:T_z2z:=@z2z_ I_z2z
def ynMy (g:T_z2z):Spec A:=fun args=>match args with | [.agg [.d (.str a1),.d (.int .i64 a2),.d (.int .i64 a3),.d (.int .i64 a4),.d (.int .i64 a5),.d (.int .i64 a6),.d (.str a7),.d (.str a8),.d (.int .i64 a9),.d (.int .i64 a10),.d (.str a11),.d (.str a12),.d (.str a13),.d (.str a14),.d (.int .i64 a15)],.agg [.d (.str a16),.d (.int .i64 a17),.d (.int .i64 a18),.d (.int .i64 a19),.d (.int .i64 a20),.d (.int .i64 a21),.d (.str a22),.d (.str a23),.d (.int .i64 a24),.d (.int .i64 a25),.d (.str a26),.d (.str a27),.d (.str a28),.d (.str a29),.d (.int .i64 a30)]]=>fun k=>g ⟨a1,a2,a3,a4,⟨a5,a6,a7,a8,a9,a10,a11,a12⟩,a13,a14,a15⟩ ⟨a16,a17,a18,a19,⟨a20,a21,a22,a23,a24,a25,a26,a27⟩,a28,a29,a30⟩ (fun z0=>k (.d (.int .i64 z0)) [.undef,.undef]) | _=>fun _=>none
noncomputable def yJ6y:Code:=(Tryz.f92.body).getD .skip
noncomputable def E_z2z (g:C_z2z):Env A:=mkE [(70,yaDy g.strings_Compare),(149,yjjy g.Q_sign)] [(2,[0]),(3,[1])] [] [] [] [] [] [] [] []
theorem yMly (g:C_z2z):Same (ynMy (@z2z_ g)) (abody (E_z2z g) Tryz.f92 yJ6y 2 [] [.asis] g.N):=by intro args;unfold ynMy;split;exact .inr fun R k=>(by kernel_rfl);exact .inl fun R k=>rfl
theorem ysmy [Fuel]:Ok 92 (ynMy (@z2z _)):=yacy std (.cons ybly (.cons yEfy .nil)) ⟨rfl,rfl,by kernel_rfl,rfl,rfl,rfl⟩ (yMly I_z2z) (cuts0 (fun _=>rfl) (by kernel_rfl)) Tryz.func92 (by kernel_rfl) (by kernel_rfl)
abbrev T_z1z:Type 1:=List G_Deed→Int→Int→{R:Type}→(List G_Deed→Option R)→Option R
structure C_z1z where
 N:Nat
 z2z:T_z2z
def z1z_L4 (g:C_z1z):Nat→Int→Int→Int→Int→List G_Deed→{R:Type}→(Int→Int→Int→List G_Deed→Option R)→Option R
 | 0,_,_,_,_,_,_,_=>none
 | n + 1,v31,v32,v33,v34,v35,_,e0=>(bif (decide (v34 > v31)) then (inr v35 v34 (at_ v35 v34 fun x43=>(inr v35 (w64 (v34 - 1)) (at_ v35 (w64 (v34 - 1)) fun x44=>(g.z2z x43 x44 (fun r45=>(bif (decide (r45 < 0)) then (inr v35 (w64 (v34 - 1)) (at_ v35 (w64 (v34 - 1)) fun x46=>(inr v35 v34 (at_ v35 v34 fun x47=>(inr v35 v34 (at_ v35 v34 fun x48=>(inr (set_ v35 v34 x46) (w64 (v34 - 1)) (at_ (set_ v35 v34 x46) (w64 (v34 - 1)) fun x49=>z1z_L4 g n v31 v32 v33 (w64 (v34 - 1)) (set_ (set_ v35 v34 x46) (w64 (v34 - 1)) x47) e0)))))))) else e0 v31 v32 v33 v35))))))) else e0 v31 v32 v33 v35)
def z1z_L1 (g:C_z1z):Nat→Int→Int→Int→List G_Deed→{R:Type}→(List G_Deed→Option R)→Option R
 | 0,_,_,_,_,_,_=>none
 | n + 1,v4,v5,v6,v7,_,e0=>(bif (decide (v6 < v5)) then (z1z_L4 g g.N v4 v5 v6 v6 v7 (fun e50 e51 e52 e53=>z1z_L1 g n e50 e51 (w64 (e52 + 1)) e53 e0)) else e0 v7)
def z1z_ (g:C_z1z) (a1:List G_Deed) (a2 a3:Int) {R:Type} (k0:List G_Deed→Option R):Option R :=
 (z1z_L1 g g.N a2 a3 (w64 (a2 + 1)) a1 (fun e54=>k0 e54))
noncomputable def I_z1z [Fuel]:C_z1z:=⟨NN,@z2z _⟩
noncomputable def z1z [Fuel]:T_z1z:=@z1z_ I_z1z
def yrXy (g:T_z1z):Spec A:=fun args=>match args with | [.arr 51 a1,.d (.int .i64 a2),.d (.int .i64 a3),.fn 92 []]=>fun k=>g a1 a2 a3 (fun z0=>k (.tup []) [.arr 51 z0,.undef,.undef,.fn 92 []]) | _=>fun _=>none
def ymKy:SSt:=mkSh 53 1 [(0,.own 51 0),(1,.int .i64),(2,.int .i64),(3,.fn 92 []),(8,.int .i64),(9,.int .i64)] [(0,.row 51)]
def yhly (g:C_z1z) (n:Nat):LPT A:=fun ps=>match ps with | [.d (.int .i64 p1),.d (.int .i64 p2),.d (.int .i64 p3),.d (.int .i64 p4),.d (.sl 51 p5)]=>fun K=>z1z_L4 g n p1 p2 p3 p4 p5 (fun z0 z1 z2 z3=>K (.exit 2) (mkSt 53 1 [(0,.own 51 0),(1,.d (.int .i64 z0)),(2,.d (.int .i64 z1)),(3,.fn 92 []),(8,.d (.int .i64 z2))] [(0,some (.row 51 z3))])) | _=>fun _=>none
def ynqy:SSt:=mkSh 53 1 [(0,.own 51 0),(1,.int .i64),(2,.int .i64),(3,.fn 92 []),(8,.int .i64)] [(0,.row 51)]
def yhuy (g:C_z1z) (n:Nat):LPT A:=fun ps=>match ps with | [.d (.int .i64 p1),.d (.int .i64 p2),.d (.int .i64 p3),.d (.sl 51 p4)]=>fun K=>z1z_L1 g n p1 p2 p3 p4 (fun z0=>K (.exit 0) (mkSt 53 1 [(0,.own 51 0),(3,.fn 92 [])] [(0,some (.row 51 z0))])) | _=>fun _=>none
noncomputable def yp0y:Code:=(Tryz.f155.body).getD .skip
noncomputable def E_z1z (g:C_z1z):Env A:=mkE [(92,ynMy g.z2z)] [] [(4,⟨[0,1,2,3,8,9],[],[0],[],[],[],[]⟩),(1,⟨[0,1,2,3,8],[],[0],[],[],[],[]⟩)] [(4,⟨[0,1,2,3,8],[],[0],[],[],[],[]⟩),(1,⟨[0,3],[],[0],[],[],[],[]⟩)] [(4,yajy ymKy (yhly g g.N)),(1,yajy ynqy (yhuy g g.N))] [] [] [] [] [0,3]
theorem yDXy [Fuel]:yaky (E_z1z I_z1z).C:=ct_of (P:=Tryz.prog) (T:=T) (.cons ysmy .nil) (by kernel_rfl)
noncomputable def yumy:Code:=sub [1,0,0,1,0,0,1,0,0] yp0y
theorem yHAy (g:C_z1z) (n:Nat):yaoy (E_z1z g) g.N yumy ymKy (yhly g) n:=by intro ps;unfold yhly;split;exact .inr fun R K=>(by kernel_rfl);exact .inl fun R K=>rfl
theorem yuqy [Fuel]:yagy (E_z1z I_z1z) NN yumy:=yaly ymKy (yhly I_z1z) (by kernel_rfl) yDXy (cuts0 (fun _=>rfl) (by kernel_rfl)) (fun ps R K=>by unfold yhly;split <;> (try unfold z1z_L4) <;> rfl) (yHAy I_z1z)
noncomputable def ytYy:Code:=sub [1,0,0] yp0y
theorem yGey (g:C_z1z) (n:Nat):yaoy (E_z1z g) g.N ytYy ynqy (yhuy g) n:=by intro ps;unfold yhuy;split;exact .inr fun R K=>(by kernel_rfl);exact .inl fun R K=>rfl
theorem yExy [Fuel]:yagy (E_z1z I_z1z) NN ytYy:=yaly ynqy (yhuy I_z1z) (by kernel_rfl) yDXy (cutsL (fun _=>rfl) (.cons yuqy .nil) (by kernel_rfl)) (fun ps R K=>by unfold yhuy;split <;> (try unfold z1z_L1) <;> rfl) (yGey I_z1z)
theorem yMNy (g:C_z1z):Same (yrXy (@z1z_ g)) (abody (E_z1z g) Tryz.f155 yp0y 1 [0] [] g.N):=by intro args;unfold yrXy;split;exact .inr fun R k=>(by kernel_rfl);exact .inl fun R k=>rfl
theorem yFiy [Fuel]:Ok 155 (yrXy (@z1z _)):=yacy std (.cons ysmy .nil) ⟨rfl,rfl,by kernel_rfl,rfl,rfl,rfl⟩ (yMNy I_z1z) (cutsL (fun _=>rfl) (.cons yuqy (.cons yExy .nil)) (by kernel_rfl)) Tryz.func155 (by kernel_rfl) (by kernel_rfl)
abbrev T_z0z:Type 1:=List G_Deed→Int→{R:Type}→(List G_Deed→Option R)→Option R
structure C_z0z where
 N:Nat
 z1z:T_z1z
def z0z_L2 (g:C_z0z):Nat→Int→Int→Int→Int→List G_Deed→{R:Type}→(Int→Int→Int→List G_Deed→Option R)→Option R
 | 0,_,_,_,_,_,_,_=>none
 | n + 1,v3,v4,v5,v6,v7,_,e0=>(bif (decide (v6≤v3)) then (g.z1z v7 v5 v6 (fun r9=>z0z_L2 g n v3 v4 v6 (w64 (v6 + v4)) r9 e0)) else e0 v3 v4 v5 v7)
def z0z_L9 (g:C_z0z):Nat→Int→Int→Int→Int→List G_Deed→{R:Type}→(Int→Int→Int→List G_Deed→Option R)→Option R
 | 0,_,_,_,_,_,_,_=>none
 | n + 1,v27,v28,v29,v30,v31,_,e0=>(bif (decide (v30≤v27)) then none else e0 v27 v28 v29 v31)
def z0z_L7 (g:C_z0z):Nat→Int→Int→List G_Deed→{R:Type}→(List G_Deed→Option R)→Option R
 | 0,_,_,_,_,_=>none
 | n + 1,v15,v16,v17,_,e0=>(bif (decide (v16 < v15)) then (z0z_L9 g g.N v15 v16 0 (w64 (2 * v16)) v17 (fun e32 e33 e34 e35=>(bif (decide ((w64 (e34 + e33)) < e32)) then none else z0z_L7 g n e32 (w64 (e33 * 2)) e35 e0))) else e0 v17)
def z0z_ (g:C_z0z) (a1:List G_Deed) (a2:Int) {R:Type} (k0:List G_Deed→Option R):Option R :=
 (z0z_L2 g g.N a2 20 0 20 a1 (fun e10 e11 e12 e13=>(g.z1z e13 e12 e10 (fun r14=>(z0z_L7 g g.N e10 e11 r14 (fun e36=>k0 e36))))))
noncomputable def I_z0z [Fuel]:C_z0z:=⟨NN,@z1z _⟩
noncomputable def z0z [Fuel]:T_z0z:=@z0z_ I_z0z
def ysGy (g:T_z0z):Spec A:=fun args=>match args with | [.arr 51 a1,.d (.int .i64 a2),.fn 92 []]=>fun k=>g a1 a2 (fun z0=>k (.tup []) [.arr 51 z0,.undef,.fn 92 []]) | _=>fun _=>none
def yndy:SSt:=mkSh 63 1 [(0,.own 51 0),(1,.int .i64),(2,.fn 92 []),(6,.int .i64),(7,.int .i64),(8,.int .i64)] [(0,.row 51)]
def yhoy (g:C_z0z) (n:Nat):LPT A:=fun ps=>match ps with | [.d (.int .i64 p1),.d (.int .i64 p2),.d (.int .i64 p3),.d (.int .i64 p4),.d (.sl 51 p5)]=>fun K=>z0z_L2 g n p1 p2 p3 p4 p5 (fun z0 z1 z2 z3=>K (.exit 0) (mkSt 63 1 [(0,.own 51 0),(1,.d (.int .i64 z0)),(2,.fn 92 []),(6,.d (.int .i64 z1)),(7,.d (.int .i64 z2))] [(0,some (.row 51 z3))])) | _=>fun _=>none
def ynny:SSt:=mkSh 63 1 [(0,.own 51 0),(1,.int .i64),(2,.fn 92 []),(6,.int .i64),(7,.int .i64),(8,.int .i64)] [(0,.row 51)]
def yhzy (g:C_z0z) (n:Nat):LPT A:=fun ps=>match ps with | [.d (.int .i64 p1),.d (.int .i64 p2),.d (.int .i64 p3),.d (.int .i64 p4),.d (.sl 51 p5)]=>fun K=>z0z_L9 g n p1 p2 p3 p4 p5 (fun z0 z1 z2 z3=>K (.exit 4) (mkSt 63 1 [(0,.own 51 0),(1,.d (.int .i64 z0)),(2,.fn 92 []),(6,.d (.int .i64 z1)),(7,.d (.int .i64 z2))] [(0,some (.row 51 z3))])) | _=>fun _=>none
def yn0y:SSt:=mkSh 63 1 [(0,.own 51 0),(1,.int .i64),(2,.fn 92 []),(6,.int .i64)] [(0,.row 51)]
def yhty (g:C_z0z) (n:Nat):LPT A:=fun ps=>match ps with | [.d (.int .i64 p1),.d (.int .i64 p2),.d (.sl 51 p3)]=>fun K=>z0z_L7 g n p1 p2 p3 (fun z0=>K (.exit 2) (mkSt 63 1 [(0,.own 51 0),(2,.fn 92 [])] [(0,some (.row 51 z0))])) | _=>fun _=>none
noncomputable def ylty:Code:=(Tryz.f148.body).getD .skip
noncomputable def E_z0z (g:C_z0z):Env A:=mkE [(155,yrXy g.z1z)] [] [(2,⟨[0,1,2,6,7,8],[],[0],[],[],[],[]⟩),(9,⟨[0,1,2,6,7,8],[],[0],[],[],[],[]⟩),(7,⟨[0,1,2,6],[],[0],[],[],[],[]⟩)] [(2,⟨[0,1,2,6,7],[],[0],[],[],[],[]⟩),(9,⟨[0,1,2,6,7],[],[0],[],[],[],[]⟩),(7,⟨[0,2],[],[0],[],[],[],[]⟩)] [(2,yajy yndy (yhoy g g.N)),(9,yajy ynny (yhzy g g.N)),(7,yajy yn0y (yhty g g.N))] [] [] [] [(155,0)] [0,2]
theorem yvMy [Fuel]:yaky (E_z0z I_z0z).C:=ct_of (P:=Tryz.prog) (T:=T) (.cons yFiy .nil) (by kernel_rfl)
noncomputable def ytTy:Code:=sub [1,1,0,0,0] ylty
theorem yHCy (g:C_z0z) (n:Nat):yaoy (E_z0z g) g.N ytTy yndy (yhoy g) n:=by intro ps;unfold yhoy;split;exact .inr fun R K=>(by kernel_rfl);exact .inl fun R K=>rfl
theorem yFKy [Fuel]:yagy (E_z0z I_z0z) NN ytTy:=yaly yndy (yhoy I_z0z) (by kernel_rfl) yvMy (cuts0 (fun _=>rfl) (by kernel_rfl)) (fun ps R K=>by unfold yhoy;split <;> (try unfold z0z_L2) <;> rfl) (yHCy I_z0z)
noncomputable def ytZy:Code:=sub [1,1,1,1,0,0,1,0,1,0,0,0] ylty
theorem yHHy (g:C_z0z) (n:Nat):yaoy (E_z0z g) g.N ytZy ynny (yhzy g) n:=by intro ps;unfold yhzy;split;exact .inr fun R K=>(by kernel_rfl);exact .inl fun R K=>rfl
theorem yucy [Fuel]:yagy (E_z0z I_z0z) NN ytZy:=yaly ynny (yhzy I_z0z) (by kernel_rfl) yvMy (cuts0 (fun _=>rfl) (by kernel_rfl)) (fun ps R K=>by unfold yhzy;split <;> (try unfold z0z_L9) <;> rfl) (yHHy I_z0z)
noncomputable def ytPy:Code:=sub [1,1,1,1,0,0] ylty
theorem yGPy (g:C_z0z) (n:Nat):yaoy (E_z0z g) g.N ytPy yn0y (yhty g) n:=by intro ps;unfold yhty;split;exact .inr fun R K=>(by kernel_rfl);exact .inl fun R K=>rfl
theorem yEzy [Fuel]:yagy (E_z0z I_z0z) NN ytPy:=yaly yn0y (yhty I_z0z) (by kernel_rfl) yvMy (cutsL (fun _=>rfl) (.cons yucy .nil) (by kernel_rfl)) (fun ps R K=>by unfold yhty;split <;> (try unfold z0z_L7) <;> rfl) (yGPy I_z0z)
theorem yNBy (g:C_z0z):Same (ysGy (@z0z_ g)) (abody (E_z0z g) Tryz.f148 ylty 1 [0] [] g.N):=by intro args;unfold ysGy;split;exact .inr fun R k=>(by kernel_rfl);exact .inl fun R k=>rfl
theorem yNmy [Fuel]:Ok 148 (ysGy (@z0z _)):=yacy std (.cons yFiy .nil) ⟨rfl,rfl,by kernel_rfl,rfl,rfl,rfl⟩ (yNBy I_z0z) (cutsL (fun _=>rfl) (.cons yFKy (.cons yucy (.cons yEzy .nil))) (by kernel_rfl)) Tryz.func148 (by kernel_rfl) (by kernel_rfl)
abbrev yvoy:Type 1:=List G_Deed→{R:Type}→(List G_Deed→Option R)→Option R
structure C_z19z where
 N:Nat
 z0z:T_z0z
def z19z_ (g:C_z19z) (a1:List G_Deed) {R:Type} (k0:List G_Deed→Option R):Option R :=
 (g.z0z a1 (a1.length:Int) (fun r2=>k0 r2))
noncomputable def ywRy [Fuel]:C_z19z:=⟨NN,@z0z _⟩
noncomputable def z19z [Fuel]:yvoy:=@z19z_ ywRy
def ypdy (g:yvoy):Spec A:=fun args=>match args with | [.arr 51 a1,.fn 92 []]=>fun k=>g a1 (fun z0=>k (.tup []) [.arr 51 z0,.fn 92 []]) | _=>fun _=>none
noncomputable def yIby:Code:=(Tryz.f91.body).getD .skip
noncomputable def yMCy (g:C_z19z):Env A:=mkE [(148,ysGy g.z0z)] [] [] [] [] [] [] [] [(148,0)] [0,1]
theorem yLDy (g:C_z19z):Same (ypdy (@z19z_ g)) (abody (yMCy g) Tryz.f91 yIby 1 [0] [] g.N):=by intro args;unfold ypdy;split;exact .inr fun R k=>(by kernel_rfl);exact .inl fun R k=>rfl
theorem yz7y [Fuel]:Ok 91 (ypdy (@z19z _)):=yacy std (.cons yNmy .nil) ⟨rfl,rfl,by kernel_rfl,rfl,rfl,rfl⟩ (yLDy ywRy) (cuts0 (fun _=>rfl) (by kernel_rfl)) Tryz.func91 (by kernel_rfl) (by kernel_rfl)
end Go.Am
