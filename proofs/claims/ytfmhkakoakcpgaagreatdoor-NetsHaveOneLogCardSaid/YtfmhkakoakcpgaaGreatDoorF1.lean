/- The functions of the program as Lean functions, each shown to be what the code computes, part 1. No condition: lemmas for the claim. -/
import Derived.Test.YtfmhkakoakcpgaaGreatDoorF0
import Derived.Test.YtfmhkakoakcpgaaGreatDoorFSh
set_option linter.unusedVariables false
set_option maxRecDepth 100000
namespace Go.Am
open Go Go.Proofs
abbrev yl4y:Type 1:=Int→Int→{R:Type}→(Int→Option R)→Option R
def yoDy (g:Nat) (a1 a2:Int) {R:Type} (k0:Int→Option R):Option R :=
 (bif (decide (a2 < 1)) then k0 0 else (bif (a2 == 0) then none else (bif (decide ((Int.tmod a1 a2) < 0)) then k0 (w64 ((Int.tmod a1 a2) + a2)) else k0 (Int.tmod a1 a2))))
noncomputable def M_Below [Fuel]:yl4y:=@yoDy NN
def yhjy (g:yl4y):Spec A:=fun args=>match args with | [.d (.int .i64 a1),.d (.int .i64 a2)]=>fun k=>g a1 a2 (fun z0=>k (.d (.int .i64 z0)) [.undef,.undef]) | _=>fun _=>none
noncomputable def yG0y:Code:=(Tryz.f51.body).getD .skip
noncomputable def yCBy (g:Nat):Env A:=mkE [] [] [] [] [] [] [] [] [] []
theorem yAhy (g:Nat):Same (yhjy (@yoDy g)) (abody (yCBy g) Tryz.f51 yG0y 0 [] [.asis] g):=by intro args; unfold yhjy; split; exact .inr fun R k=>(by kernel_rfl); exact .inl fun R k=>rfl
theorem yzYy [Fuel]:Ok 51 (yhjy (@M_Below _)):=yacy std .nil ⟨rfl,rfl,by kernel_rfl,rfl,rfl,rfl⟩ (yAhy NN) (cuts0 (fun _=>rfl) (by kernel_rfl)) Tryz.func51 (by kernel_rfl) (by kernel_rfl)
abbrev yfTy:Type 1:=G_Stream→Int→{R:Type}→(Int→G_Stream→Option R)→Option R
structure C_z41z where
 N:Nat
 M_Below:yl4y
def z41z_ (g:C_z41z) (a1:G_Stream) (a2:Int) {R:Type} (k0:Int→G_Stream→Option R):Option R :=
 (bif ((a1.f_L.length:Int) == 0) then (g.M_Below (w64 ((w64 (a1.f_at + 1)) * 7919)) a2 (fun r3=>k0 r3 (⟨a1.f_L,(w64 (a1.f_at + 1))⟩:G_Stream))) else (bif ((a1.f_L.length:Int) == 0) then none else (bif ((a1.f_L.length:Int) == 0) then none else (get_ a1.f_L (Int.tmod (w64 ((w64 (a1.f_at + 1)) - 1)) (a1.f_L.length:Int)) fun x4=>(g.M_Below x4 1073741824 (fun r5=>(g.M_Below (w64 (r5 + (w64 ((w64 (Int.tdiv (w64 ((w64 (a1.f_at + 1)) - 1)) (a1.f_L.length:Int))) * (w64 (7919 + (Int.tmod (w64 ((w64 (a1.f_at + 1)) - 1)) (a1.f_L.length:Int)))))))) a2 (fun r6=>k0 r6 (⟨a1.f_L,(w64 (a1.f_at + 1))⟩:G_Stream)))))))))
noncomputable def yvDy [Fuel]:C_z41z:=⟨NN,@M_Below _⟩
noncomputable def z41z [Fuel]:yfTy:=@z41z_ yvDy
def yc9y (g:yfTy):Spec A:=fun args=>match args with | [.box [.d (.sl 3 a1),.d (.int .i64 a2)],.d (.int .i64 a3)]=>fun k=>g ⟨a1,a2⟩ a3 (fun z0 z1=>k (.d (.int .i64 z0)) [.box [.d (.sl 3 z1.f_L),.d (.int .i64 z1.f_at)],.undef]) | _=>fun _=>none
noncomputable def yFwy:Code:=(Tryz.f20.body).getD .skip
noncomputable def yKBy (g:C_z41z):Env A:=mkE [(51,yhjy g.M_Below)] [] [] [] [] [] [] [] [] [0]
theorem yGSy (g:C_z41z):Same (yc9y (@z41z_ g)) (abody (yKBy g) Tryz.f20 yFwy 1 [0] [.asis] g.N):=by intro args; unfold yc9y; split; exact .inr fun R k=>(by kernel_rfl); exact .inl fun R k=>rfl
theorem ydMy [Fuel]:Ok 20 (yc9y (@z41z _)):=yacy std (.cons yzYy .nil) ⟨rfl,rfl,by kernel_rfl,rfl,rfl,rfl⟩ (yGSy yvDy) (cuts0 (fun _=>rfl) (by kernel_rfl)) Tryz.func20 (by kernel_rfl) (by kernel_rfl)
abbrev ymJy:Type 1:=G_Stream→Int→Int→{R:Type}→(Int→G_Stream→Option R)→Option R
structure C_z54z where
 N:Nat
 z41z:yfTy
def z54z_ (g:C_z54z) (a1:G_Stream) (a2 a3:Int) {R:Type} (k0:Int→G_Stream→Option R):Option R :=
 (bif (decide (a3 < a2)) then k0 a2 a1 else (g.z41z a1 (w64 ((w64 (a3 - a2)) + 1)) (fun r4 r5=>k0 (w64 (a2 + r4)) r5)))
noncomputable def ytMy [Fuel]:C_z54z:=⟨NN,@z41z _⟩
noncomputable def z54z [Fuel]:ymJy:=@z54z_ ytMy
def yhxy (g:ymJy):Spec A:=fun args=>match args with | [.box [.d (.sl 3 a1),.d (.int .i64 a2)],.d (.int .i64 a3),.d (.int .i64 a4)]=>fun k=>g ⟨a1,a2⟩ a3 a4 (fun z0 z1=>k (.d (.int .i64 z0)) [.box [.d (.sl 3 z1.f_L),.d (.int .i64 z1.f_at)],.undef,.undef]) | _=>fun _=>none
noncomputable def yKqy:Code:=(Tryz.f5.body).getD .skip
noncomputable def yKVy (g:C_z54z):Env A:=mkE [(20,yc9y g.z41z)] [] [] [] [] [] [] [] [] [0]
theorem yH3y (g:C_z54z):Same (yhxy (@z54z_ g)) (abody (yKVy g) Tryz.f5 yKqy 1 [0] [.asis] g.N):=by intro args; unfold yhxy; split; exact .inr fun R k=>(by kernel_rfl); exact .inl fun R k=>rfl
theorem yjHy [Fuel]:Ok 5 (yhxy (@z54z _)):=yacy std (.cons ydMy .nil) ⟨rfl,rfl,by kernel_rfl,rfl,rfl,rfl⟩ (yH3y ytMy) (cuts0 (fun _=>rfl) (by kernel_rfl)) Tryz.func5 (by kernel_rfl) (by kernel_rfl)
abbrev ymFy:Type 1:=G_Stream→List Int→{R:Type}→(Int→G_Stream→Option R)→Option R
structure C_z64z where
 N:Nat
 z41z:yfTy
def z64z_ (g:C_z64z) (a1:G_Stream) (a2:List Int) {R:Type} (k0:Int→G_Stream→Option R):Option R :=
 (g.z41z a1 (a2.length:Int) (fun r3 r4=>(get_ a2 r3 fun x5=>k0 x5 r4)))
noncomputable def yusy [Fuel]:C_z64z:=⟨NN,@z41z _⟩
noncomputable def z64z [Fuel]:ymFy:=@z64z_ yusy
def yhEy (g:ymFy):Spec A:=fun args=>match args with | [.box [.d (.sl 3 a1),.d (.int .i64 a2)],.d (.sl 3 a3)]=>fun k=>g ⟨a1,a2⟩ a3 (fun z0 z1=>k (.d (.int .i64 z0)) [.box [.d (.sl 3 z1.f_L),.d (.int .i64 z1.f_at)],.undef]) | _=>fun _=>none
noncomputable def yHPy:Code:=(Tryz.f40.body).getD .skip
noncomputable def yJvy (g:C_z64z):Env A:=mkE [(20,yc9y g.z41z)] [] [] [] [] [] [] [] [] [0]
theorem yH2y (g:C_z64z):Same (yhEy (@z64z_ g)) (abody (yJvy g) Tryz.f40 yHPy 1 [0] [.asis] g.N):=by intro args; unfold yhEy; split; exact .inr fun R k=>(by kernel_rfl); exact .inl fun R k=>rfl
theorem yncy [Fuel]:Ok 40 (yhEy (@z64z _)):=yacy std (.cons ydMy .nil) ⟨rfl,rfl,by kernel_rfl,rfl,rfl,rfl⟩ (yH2y yusy) (cuts0 (fun _=>rfl) (by kernel_rfl)) Tryz.func40 (by kernel_rfl) (by kernel_rfl)
abbrev ymjy:Type 1:=G_Stream→List (List UInt8)→{R:Type}→(List UInt8→G_Stream→Option R)→Option R
structure C_z22z where
 N:Nat
 z41z:yfTy
def z22z_ (g:C_z22z) (a1:G_Stream) (a2:List (List UInt8)) {R:Type} (k0:List UInt8→G_Stream→Option R):Option R :=
 (g.z41z a1 (a2.length:Int) (fun r3 r4=>(get_ a2 r3 fun x5=>k0 x5 r4)))
noncomputable def ytwy [Fuel]:C_z22z:=⟨NN,@z41z _⟩
noncomputable def z22z [Fuel]:ymjy:=@z22z_ ytwy
def yhDy (g:ymjy):Spec A:=fun args=>match args with | [.box [.d (.sl 3 a1),.d (.int .i64 a2)],.d (.sl 9 a3)]=>fun k=>g ⟨a1,a2⟩ a3 (fun z0 z1=>k (.d (.str z0)) [.box [.d (.sl 3 z1.f_L),.d (.int .i64 z1.f_at)],.undef]) | _=>fun _=>none
noncomputable def yG1y:Code:=(Tryz.f41.body).getD .skip
noncomputable def yKuy (g:C_z22z):Env A:=mkE [(20,yc9y g.z41z)] [] [] [] [] [] [] [] [] [0]
theorem yG9y (g:C_z22z):Same (yhDy (@z22z_ g)) (abody (yKuy g) Tryz.f41 yG1y 1 [0] [.asis] g.N):=by intro args; unfold yhDy; split; exact .inr fun R k=>(by kernel_rfl); exact .inl fun R k=>rfl
theorem ynwy [Fuel]:Ok 41 (yhDy (@z22z _)):=yacy std (.cons ydMy .nil) ⟨rfl,rfl,by kernel_rfl,rfl,rfl,rfl⟩ (yG9y ytwy) (cuts0 (fun _=>rfl) (by kernel_rfl)) Tryz.func41 (by kernel_rfl) (by kernel_rfl)
abbrev yjqy:Type 1:=G_Stream→Int→{R:Type}→(Bool→G_Stream→Option R)→Option R
structure C_z58z where
 N:Nat
 z41z:yfTy
def z58z_ (g:C_z58z) (a1:G_Stream) (a2:Int) {R:Type} (k0:Bool→G_Stream→Option R):Option R :=
 (g.z41z a1 a2 (fun r3 r4=>k0 (r3 == 0) r4))
noncomputable def yv3y [Fuel]:C_z58z:=⟨NN,@z41z _⟩
noncomputable def z58z [Fuel]:yjqy:=@z58z_ yv3y
def ygdy (g:yjqy):Spec A:=fun args=>match args with | [.box [.d (.sl 3 a1),.d (.int .i64 a2)],.d (.int .i64 a3)]=>fun k=>g ⟨a1,a2⟩ a3 (fun z0 z1=>k (.d (.bool z0)) [.box [.d (.sl 3 z1.f_L),.d (.int .i64 z1.f_at)],.undef]) | _=>fun _=>none
noncomputable def yGLy:Code:=(Tryz.f43.body).getD .skip
noncomputable def yKKy (g:C_z58z):Env A:=mkE [(20,yc9y g.z41z)] [] [] [] [] [] [] [] [] [0]
theorem yFty (g:C_z58z):Same (ygdy (@z58z_ g)) (abody (yKKy g) Tryz.f43 yGLy 1 [0] [.asis] g.N):=by intro args; unfold ygdy; split; exact .inr fun R k=>(by kernel_rfl); exact .inl fun R k=>rfl
theorem yjWy [Fuel]:Ok 43 (ygdy (@z58z _)):=yacy std (.cons ydMy .nil) ⟨rfl,rfl,by kernel_rfl,rfl,rfl,rfl⟩ (yFty yv3y) (cuts0 (fun _=>rfl) (by kernel_rfl)) Tryz.func43 (by kernel_rfl) (by kernel_rfl)
abbrev ywRy:Type 1:=G_Stream→{R:Type}→(List UInt8→G_Stream→Option R)→Option R
structure C_z77z where
 N:Nat
 z22z:ymjy
 z58z:yjqy
def z77z_ (g:C_z77z) (a1:G_Stream) {R:Type} (k0:List UInt8→G_Stream→Option R):Option R :=
 (g.z58z a1 60 (fun r2 r3=>(bif r2 then (g.z22z r3 [[],[107,49],[75,49,65,66],[107,49,97,98,47],[49,97],[107,49,97,98,47,109,109,47,112]] (fun r4 r5=>k0 r4 r5)) else (g.z22z r3 [[107,49,97,98],[107,49,97,97],[107,49,97,98,47,52],[111,104,50,97,98,99],[111,104,50,97,98,100],[119,49,97,119],[110,49,109,109],[103,51,120,121,122,47,112]] (fun r6 r7=>k0 r6 r7)))))
noncomputable def yqcy [Fuel]:C_z77z:=⟨NN,@z22z _,@z58z _⟩
noncomputable def z77z [Fuel]:ywRy:=@z77z_ yqcy
def ynYy (g:ywRy):Spec A:=fun args=>match args with | [.box [.d (.sl 3 a1),.d (.int .i64 a2)]]=>fun k=>g ⟨a1,a2⟩ (fun z0 z1=>k (.d (.str z0)) [.box [.d (.sl 3 z1.f_L),.d (.int .i64 z1.f_at)]]) | _=>fun _=>none
noncomputable def yFvy:Code:=(Tryz.f79.body).getD .skip
noncomputable def yK2y (g:C_z77z):Env A:=mkE [(41,yhDy g.z22z),(43,ygdy g.z58z)] [(6,[1]),(9,[2])] [] [] [] [] [] [] [] [0]
theorem yFxy (g:C_z77z):Same (ynYy (@z77z_ g)) (abody (yK2y g) Tryz.f79 yFvy 3 [0] [.asis] g.N):=by intro args; unfold ynYy; split; exact .inr fun R k=>(by kernel_rfl); exact .inl fun R k=>rfl
theorem yGcy [Fuel]:Ok 79 (ynYy (@z77z _)):=yacy std (.cons ynwy (.cons yjWy .nil)) ⟨rfl,rfl,by kernel_rfl,rfl,rfl,rfl⟩ (yFxy yqcy) (cuts0 (fun _=>rfl) (by kernel_rfl)) Tryz.func79 (by kernel_rfl) (by kernel_rfl)
abbrev yfjy:Type 1:=G_Stream→Int→Int→{R:Type}→(Int→G_Stream→Option R)→Option R
structure C_Stream_Odd where
 N:Nat
 z54z:ymJy
 z64z:ymFy
 z58z:yjqy
def ygsy (g:C_Stream_Odd) (a1:G_Stream) (a2 a3:Int) {R:Type} (k0:Int→G_Stream→Option R):Option R :=
 (g.z58z a1 12 (fun r4 r5=>(bif r4 then (g.z64z r5 [(w64 (a2 - 1)),(w64 (a3 + 1)),a2,a3,(-1099511627776),1099511627776] (fun r6 r7=>k0 r6 r7)) else (g.z54z r5 a2 a3 (fun r8 r9=>k0 r8 r9)))))
noncomputable def yeVy [Fuel]:C_Stream_Odd:=⟨NN,@z54z _,@z64z _,@z58z _⟩
noncomputable def Stream_Odd [Fuel]:yfjy:=@ygsy yeVy
def yc0y (g:yfjy):Spec A:=fun args=>match args with | [.box [.d (.sl 3 a1),.d (.int .i64 a2)],.d (.int .i64 a3),.d (.int .i64 a4)]=>fun k=>g ⟨a1,a2⟩ a3 a4 (fun z0 z1=>k (.d (.int .i64 z0)) [.box [.d (.sl 3 z1.f_L),.d (.int .i64 z1.f_at)],.undef,.undef]) | _=>fun _=>none
noncomputable def yIiy:Code:=(Tryz.f44.body).getD .skip
noncomputable def ywsy (g:C_Stream_Odd):Env A:=mkE [(5,yhxy g.z54z),(40,yhEy g.z64z),(43,ygdy g.z58z)] [(16,[1])] [] [] [] [] [] [] [] [0]
theorem ys6y (g:C_Stream_Odd):Same (yc0y (@ygsy g)) (abody (ywsy g) Tryz.f44 yIiy 2 [0] [.asis] g.N):=by intro args; unfold yc0y; split; exact .inr fun R k=>(by kernel_rfl); exact .inl fun R k=>rfl
theorem yg4y [Fuel]:Ok 44 (yc0y (@Stream_Odd _)):=yacy std (.cons yjHy (.cons yncy (.cons yjWy .nil))) ⟨rfl,rfl,by kernel_rfl,rfl,rfl,rfl⟩ (ys6y yeVy) (cuts0 (fun _=>rfl) (by kernel_rfl)) Tryz.func44 (by kernel_rfl) (by kernel_rfl)
abbrev yuyy:Type 1:=G_Stream→Int→{R:Type}→(G_Contact→G_Stream→Option R)→Option R
structure C_z60z where
 N:Nat
 z41z:yfTy
 z64z:ymFy
 z22z:ymjy
 z58z:yjqy
 Stream_Odd:yfjy
 z77z:ywRy
def z60z_ (g:C_z60z) (a1:G_Stream) (a2:Int) {R:Type} (k0:G_Contact→G_Stream→Option R):Option R :=
 (g.z64z a1 [1,1,2,3] (fun r3 r4=>(g.z22z r4 [[98,50,48],[98,50,48],[98,52,48]] (fun r5 r6=>(g.z77z r6 (fun r7 r8=>(g.z64z r8 [0,1,2,3,4,5,6,7] (fun r9 r10=>(g.z64z r10 [0,1,2,9] (fun r11 r12=>(g.z22z r12 [[],[],[102,105,110]] (fun r13 r14=>(g.z22z r14 [[],[],[117,115,97]] (fun r15 r16=>(g.z58z r16 100 (fun r17 r18=>(bif r17 then (g.z41z r18 4 (fun r19 r20=>(bif (r19 == 0) then (g.Stream_Odd r20 0 500 (fun r21 r22=>(g.Stream_Odd r22 1 3 (fun r23 r24=>k0 (⟨r21,r23,r5,r7,r9,r11,r13,r15⟩:G_Contact) r24)))) else (bif (r19 == 1) then (g.z22z r20 [[],[66],[98,50,48]] (fun r25 r26=>k0 (⟨a2,r3,r25,r7,r9,r11,r13,r15⟩:G_Contact) r26)) else (bif (r19 == 2) then (g.Stream_Odd r20 0 99999 (fun r27 r28=>(g.Stream_Odd r28 0 99999 (fun r29 r30=>k0 (⟨a2,r3,r5,r7,r27,r29,r13,r15⟩:G_Contact) r30)))) else (g.z22z r20 [[],[65]] (fun r31 r32=>(g.z22z r32 [[49],[117,115,97]] (fun r33 r34=>k0 (⟨a2,r3,r5,r7,r9,r11,r31,r33⟩:G_Contact) r34))))))))) else k0 (⟨a2,r3,r5,r7,r9,r11,r13,r15⟩:G_Contact) r18)))))))))))))))))
noncomputable def ywuy [Fuel]:C_z60z:=⟨NN,@z41z _,@z64z _,@z22z _,@z58z _,@Stream_Odd _,@z77z _⟩
noncomputable def z60z [Fuel]:yuyy:=@z60z_ ywuy
def ymWy (g:yuyy):Spec A:=fun args=>match args with | [.box [.d (.sl 3 a1),.d (.int .i64 a2)],.d (.int .i64 a3)]=>fun k=>g ⟨a1,a2⟩ a3 (fun z0 z1=>k (.agg [.d (.int .i64 z0.f_At),.d (.int .i64 z0.f_Mode),.d (.str z0.f_Band),.d (.str z0.f_Call),.d (.int .i64 z0.f_Sent),.d (.int .i64 z0.f_Heard),.d (.str z0.f_Gave),.d (.str z0.f_Got)]) [.box [.d (.sl 3 z1.f_L),.d (.int .i64 z1.f_at)],.undef]) | _=>fun _=>none
noncomputable def yF4y:Code:=(Tryz.f42.body).getD .skip
noncomputable def yKry (g:C_z60z):Env A:=mkE [(20,yc9y g.z41z),(40,yhEy g.z64z),(41,yhDy g.z22z),(43,ygdy g.z58z),(44,yc0y g.Stream_Odd),(79,ynYy g.z77z)] [(4,[1]),(5,[8]),(8,[2]),(11,[3]),(16,[4]),(19,[5]),(22,[6]),(25,[7]),(33,[10]),(36,[11]),(51,[9])] [] [] [] [] [] [] [] [0]
theorem yFWy (g:C_z60z):Same (ymWy (@z60z_ g)) (abody (yKry g) Tryz.f42 yF4y 12 [0] [.asis] g.N):=by intro args; unfold ymWy; split; exact .inr fun R k=>(by kernel_rfl); exact .inl fun R k=>rfl
theorem yyEy [Fuel]:Ok 42 (ymWy (@z60z _)):=yacy std (.cons ydMy (.cons yncy (.cons ynwy (.cons yjWy (.cons yg4y (.cons yGcy .nil)))))) ⟨rfl,rfl,by kernel_rfl,rfl,rfl,rfl⟩ (yFWy ywuy) (cuts0 (fun _=>rfl) (by kernel_rfl)) Tryz.func42 (by kernel_rfl) (by kernel_rfl)
abbrev yo2y:Type 1:=Int→{R:Type}→(Int→Option R)→Option R
def yr5y (g:Nat) (a1:Int) {R:Type} (k0:Int→Option R):Option R :=
 (bif (decide (a1 < 0)) then k0 (-1) else (bif (decide (a1 > 0)) then k0 1 else k0 0))
noncomputable def Q_sign [Fuel]:yo2y:=@yr5y NN
def yity (g:yo2y):Spec A:=fun args=>match args with | [.d (.int .i64 a1)]=>fun k=>g a1 (fun z0=>k (.d (.int .i64 z0)) [.undef]) | _=>fun _=>none
noncomputable def yIqy:Code:=(Tryz.f81.body).getD .skip
noncomputable def yFay (g:Nat):Env A:=mkE [] [] [] [] [] [] [] [] [] []
theorem yCOy (g:Nat):Same (yity (@yr5y g)) (abody (yFay g) Tryz.f81 yIqy 0 [] [.asis] g):=by intro args; unfold yity; split; exact .inr fun R k=>(by kernel_rfl); exact .inl fun R k=>rfl
theorem yDmy [Fuel]:Ok 81 (yity (@Q_sign _)):=yacy std .nil ⟨rfl,rfl,by kernel_rfl,rfl,rfl,rfl⟩ (yCOy NN) (cuts0 (fun _=>rfl) (by kernel_rfl)) Tryz.func81 (by kernel_rfl) (by kernel_rfl)
abbrev ybcy:Type 1:=List UInt8→List UInt8→{R:Type}→(Int→Option R)→Option R
def strings_Compare [Fuel]:ybcy:=@X_cmp
def yaFy (g:ybcy):Spec A:=yjOy g
theorem ybky [Fuel]:Ok 59 (yaFy (@strings_Compare _)):=⟨yluy (ysyy (Any.strings_Compare Tryz.lays106)),yoBy,yaSy (fn:=Tryz.f59) Tryz.func59 (by kernel_rfl) (by kernel_rfl)⟩
theorem ydjy [Fuel]:OkD 59 (yaFy (@strings_Compare _)):=⟨yluy (ysyy (Any.strings_Compare Tryz.lays106)),yoBy,yaSy (fn:=Tryz.f59) Tryz.func59 (by kernel_rfl) (by kernel_rfl)⟩
abbrev T_z2z:Type 1:=G_Deed→G_Deed→{R:Type}→(Int→Option R)→Option R
structure C_z2z where
 N:Nat
 strings_Compare:ybcy
 Q_sign:yo2y
def z2z_ (g:C_z2z) (a1 a2:G_Deed) {R:Type} (k0:Int→Option R):Option R :=
 (bif (a1.f_At != a2.f_At) then (g.Q_sign (w64 (a1.f_At - a2.f_At)) (fun r3=>k0 r3)) else (bif (!(a1.f_Site == a2.f_Site)) then (g.strings_Compare a1.f_Site a2.f_Site (fun r4=>k0 r4)) else (g.Q_sign (w64 (a1.f_No - a2.f_No)) (fun r5=>k0 r5))))
noncomputable def I_z2z [Fuel]:C_z2z:=⟨NN,@strings_Compare _,@Q_sign _⟩
noncomputable def z2z [Fuel]:T_z2z:=@z2z_ I_z2z
def ylQy (g:T_z2z):Spec A:=fun args=>match args with | [.agg [.d (.str a1),.d (.int .i64 a2),.d (.int .i64 a3),.d (.int .i64 a4),.d (.int .i64 a5),.d (.int .i64 a6),.d (.str a7),.d (.str a8),.d (.int .i64 a9),.d (.int .i64 a10),.d (.str a11),.d (.str a12),.d (.str a13),.d (.str a14),.d (.int .i64 a15)],.agg [.d (.str a16),.d (.int .i64 a17),.d (.int .i64 a18),.d (.int .i64 a19),.d (.int .i64 a20),.d (.int .i64 a21),.d (.str a22),.d (.str a23),.d (.int .i64 a24),.d (.int .i64 a25),.d (.str a26),.d (.str a27),.d (.str a28),.d (.str a29),.d (.int .i64 a30)]]=>fun k=>g ⟨a1,a2,a3,a4,⟨a5,a6,a7,a8,a9,a10,a11,a12⟩,a13,a14,a15⟩ ⟨a16,a17,a18,a19,⟨a20,a21,a22,a23,a24,a25,a26,a27⟩,a28,a29,a30⟩ (fun z0=>k (.d (.int .i64 z0)) [.undef,.undef]) | _=>fun _=>none
noncomputable def yGGy:Code:=(Tryz.f46.body).getD .skip
noncomputable def E_z2z (g:C_z2z):Env A:=mkE [(59,yaFy g.strings_Compare),(81,yity g.Q_sign)] [(2,[0]),(3,[1])] [] [] [] [] [] [] [] []
theorem yKRy (g:C_z2z):Same (ylQy (@z2z_ g)) (abody (E_z2z g) Tryz.f46 yGGy 2 [] [.asis] g.N):=by intro args; unfold ylQy; split; exact .inr fun R k=>(by kernel_rfl); exact .inl fun R k=>rfl
theorem yq7y [Fuel]:Ok 46 (ylQy (@z2z _)):=yacy std (.cons ybky (.cons yDmy .nil)) ⟨rfl,rfl,by kernel_rfl,rfl,rfl,rfl⟩ (yKRy I_z2z) (cuts0 (fun _=>rfl) (by kernel_rfl)) Tryz.func46 (by kernel_rfl) (by kernel_rfl)
abbrev T_z1z:Type 1:=List G_Deed→Int→Int→{R:Type}→(List G_Deed→Option R)→Option R
structure C_z1z where
 N:Nat
 z2z:T_z2z
def z1z_L4 (g:C_z1z):Nat→Int→Int→Int→Int→List G_Deed→{R:Type}→(Int→Int→Int→List G_Deed→Option R)→Option R
 | 0,_,_,_,_,_,_,_=>none
 | n + 1,v31,v32,v33,v34,v35,_,e0=>(bif (decide (v34 > v31)) then (inr v35 v34 (at_ v35 v34 fun x43=>(inr v35 (w64 (v34 - 1)) (at_ v35 (w64 (v34 - 1)) fun x44=>(g.z2z x43 x44 (fun r45=>(bif (decide (r45 < 0)) then (inr v35 (w64 (v34 - 1)) (at_ v35 (w64 (v34 - 1)) fun x46=>(inr v35 v34 (at_ v35 v34 fun x47=>(inr v35 v34 (at_ v35 v34 fun x48=>(inr (set_ v35 v34 x46) (w64 (v34 - 1)) (at_ (set_ v35 v34 x46) (w64 (v34 - 1)) fun x49=>z1z_L4 g n v31 v32 v33 (w64 (v34 - 1)) (set_ (set_ v35 v34 x46) (w64 (v34 - 1)) x47) e0)))))))) else e0 v31 v32 v33 v35))))))) else e0 v31 v32 v33 v35)
def z1z_L1 (g:C_z1z):Nat→Int→Int→Int→List G_Deed→{R:Type}→(List G_Deed→Option R)→Option R
 | 0,_,_,_,_,_,_=>none
 | n + 1,v4,v5,v6,v7,_,e0=>(bif (decide (v6 < v5)) then (z1z_L4 g g.N v4 v5 v6 v6 v7 (fun e50 e51 e52 e53=>z1z_L1 g n e50 e51 (w64 (e52 + 1)) e53 e0)) else e0 v7)
def z1z_ (g:C_z1z) (a1:List G_Deed) (a2 a3:Int) {R:Type} (k0:List G_Deed→Option R):Option R :=
 (z1z_L1 g g.N a2 a3 (w64 (a2 + 1)) a1 (fun e54=>k0 e54))
noncomputable def I_z1z [Fuel]:C_z1z:=⟨NN,@z2z _⟩
noncomputable def z1z [Fuel]:T_z1z:=@z1z_ I_z1z
def ypPy (g:T_z1z):Spec A:=fun args=>match args with | [.arr 41 a1,.d (.int .i64 a2),.d (.int .i64 a3),.fn 46 []]=>fun k=>g a1 a2 a3 (fun z0=>k (.tup []) [.arr 41 z0,.undef,.undef,.fn 46 []]) | _=>fun _=>none
def ylOy:SSt:=mkSh 53 1 [(0,.own 41 0),(1,.int .i64),(2,.int .i64),(3,.fn 46 []),(8,.int .i64),(9,.int .i64)] [(0,.row 41)]
def ygQy (g:C_z1z) (n:Nat):LPT A:=fun ps=>match ps with | [.d (.int .i64 p1),.d (.int .i64 p2),.d (.int .i64 p3),.d (.int .i64 p4),.d (.sl 41 p5)]=>fun K=>z1z_L4 g n p1 p2 p3 p4 p5 (fun z0 z1 z2 z3=>K (.exit 2) (mkSt 53 1 [(0,.own 41 0),(1,.d (.int .i64 z0)),(2,.d (.int .i64 z1)),(3,.fn 46 []),(8,.d (.int .i64 z2))] [(0,some (.row 41 z3))])) | _=>fun _=>none
def ylXy:SSt:=mkSh 53 1 [(0,.own 41 0),(1,.int .i64),(2,.int .i64),(3,.fn 46 []),(8,.int .i64)] [(0,.row 41)]
def ygUy (g:C_z1z) (n:Nat):LPT A:=fun ps=>match ps with | [.d (.int .i64 p1),.d (.int .i64 p2),.d (.int .i64 p3),.d (.sl 41 p4)]=>fun K=>z1z_L1 g n p1 p2 p3 p4 (fun z0=>K (.exit 0) (mkSt 53 1 [(0,.own 41 0),(3,.fn 46 [])] [(0,some (.row 41 z0))])) | _=>fun _=>none
noncomputable def yrpy:Code:=(Tryz.f91.body).getD .skip
noncomputable def E_z1z (g:C_z1z):Env A:=mkE [(46,ylQy g.z2z)] [] [(4,⟨[0,1,2,3,8,9],[],[0],[],[],[],[]⟩),(1,⟨[0,1,2,3,8],[],[0],[],[],[],[]⟩)] [(4,⟨[0,1,2,3,8],[],[0],[],[],[],[]⟩),(1,⟨[0,3],[],[0],[],[],[],[]⟩)] [(4,yaiy ylOy (ygQy g g.N)),(1,yaiy ylXy (ygUy g g.N))] [] [] [] [] [0,3]
theorem yBGy [Fuel]:yamy (E_z1z I_z1z).C:=ct_of (P:=Tryz.prog) (T:=T) (.cons yq7y .nil) (by kernel_rfl)
noncomputable def ysUy:Code:=sub [1,0,0,1,0,0,1,0,0] yrpy
theorem yD3y (g:C_z1z) (n:Nat):yaoy (E_z1z g) g.N ysUy ylOy (ygQy g) n:=by intro ps; unfold ygQy; split; exact .inr fun R K=>(by kernel_rfl); exact .inl fun R K=>rfl
theorem ysFy [Fuel]:yahy (E_z1z I_z1z) NN ysUy:=yaky ylOy (ygQy I_z1z) (by kernel_rfl) yBGy (cuts0 (fun _=>rfl) (by kernel_rfl)) (fun ps R K=>by unfold ygQy; split <;> (try unfold z1z_L4) <;> rfl) (yD3y I_z1z)
noncomputable def ysNy:Code:=sub [1,0,0] yrpy
theorem yEMy (g:C_z1z) (n:Nat):yaoy (E_z1z g) g.N ysNy ylXy (ygUy g) n:=by intro ps; unfold ygUy; split; exact .inr fun R K=>(by kernel_rfl); exact .inl fun R K=>rfl
theorem yDay [Fuel]:yahy (E_z1z I_z1z) NN ysNy:=yaky ylXy (ygUy I_z1z) (by kernel_rfl) yBGy (cutsL (fun _=>rfl) (.cons ysFy .nil) (by kernel_rfl)) (fun ps R K=>by unfold ygUy; split <;> (try unfold z1z_L1) <;> rfl) (yEMy I_z1z)
theorem yKsy (g:C_z1z):Same (ypPy (@z1z_ g)) (abody (E_z1z g) Tryz.f91 yrpy 1 [0] [] g.N):=by intro args; unfold ypPy; split; exact .inr fun R k=>(by kernel_rfl); exact .inl fun R k=>rfl
theorem yBry [Fuel]:Ok 91 (ypPy (@z1z _)):=yacy std (.cons yq7y .nil) ⟨rfl,rfl,by kernel_rfl,rfl,rfl,rfl⟩ (yKsy I_z1z) (cutsL (fun _=>rfl) (.cons ysFy (.cons yDay .nil)) (by kernel_rfl)) Tryz.func91 (by kernel_rfl) (by kernel_rfl)
abbrev T_z0z:Type 1:=List G_Deed→Int→{R:Type}→(List G_Deed→Option R)→Option R
structure C_z0z where
 N:Nat
 z1z:T_z1z
def z0z_L2 (g:C_z0z):Nat→Int→Int→Int→Int→List G_Deed→{R:Type}→(Int→Int→Int→List G_Deed→Option R)→Option R
 | 0,_,_,_,_,_,_,_=>none
 | n + 1,v3,v4,v5,v6,v7,_,e0=>(bif (decide (v6≤v3)) then (g.z1z v7 v5 v6 (fun r9=>z0z_L2 g n v3 v4 v6 (w64 (v6 + v4)) r9 e0)) else e0 v3 v4 v5 v7)
def z0z_L9 (g:C_z0z):Nat→Int→Int→Int→Int→List G_Deed→{R:Type}→(Int→Int→Int→List G_Deed→Option R)→Option R
 | 0,_,_,_,_,_,_,_=>none
 | n + 1,v27,v28,v29,v30,v31,_,e0=>(bif (decide (v30≤v27)) then none else e0 v27 v28 v29 v31)
def z0z_L7 (g:C_z0z):Nat→Int→Int→List G_Deed→{R:Type}→(List G_Deed→Option R)→Option R
 | 0,_,_,_,_,_=>none
 | n + 1,v15,v16,v17,_,e0=>(bif (decide (v16 < v15)) then (z0z_L9 g g.N v15 v16 0 (w64 (2 * v16)) v17 (fun e32 e33 e34 e35=>(bif (decide ((w64 (e34 + e33)) < e32)) then none else z0z_L7 g n e32 (w64 (e33 * 2)) e35 e0))) else e0 v17)
def z0z_ (g:C_z0z) (a1:List G_Deed) (a2:Int) {R:Type} (k0:List G_Deed→Option R):Option R :=
 (z0z_L2 g g.N a2 20 0 20 a1 (fun e10 e11 e12 e13=>(g.z1z e13 e12 e10 (fun r14=>(z0z_L7 g g.N e10 e11 r14 (fun e36=>k0 e36))))))
noncomputable def I_z0z [Fuel]:C_z0z:=⟨NN,@z1z _⟩
noncomputable def z0z [Fuel]:T_z0z:=@z0z_ I_z0z
def yqoy (g:T_z0z):Spec A:=fun args=>match args with | [.arr 41 a1,.d (.int .i64 a2),.fn 46 []]=>fun k=>g a1 a2 (fun z0=>k (.tup []) [.arr 41 z0,.undef,.fn 46 []]) | _=>fun _=>none
def ympy:SSt:=mkSh 63 1 [(0,.own 41 0),(1,.int .i64),(2,.fn 46 []),(6,.int .i64),(7,.int .i64),(8,.int .i64)] [(0,.row 41)]
def ygPy (g:C_z0z) (n:Nat):LPT A:=fun ps=>match ps with | [.d (.int .i64 p1),.d (.int .i64 p2),.d (.int .i64 p3),.d (.int .i64 p4),.d (.sl 41 p5)]=>fun K=>z0z_L2 g n p1 p2 p3 p4 p5 (fun z0 z1 z2 z3=>K (.exit 0) (mkSt 63 1 [(0,.own 41 0),(1,.d (.int .i64 z0)),(2,.fn 46 []),(6,.d (.int .i64 z1)),(7,.d (.int .i64 z2))] [(0,some (.row 41 z3))])) | _=>fun _=>none
def yl9y:SSt:=mkSh 63 1 [(0,.own 41 0),(1,.int .i64),(2,.fn 46 []),(6,.int .i64),(7,.int .i64),(8,.int .i64)] [(0,.row 41)]
def ygOy (g:C_z0z) (n:Nat):LPT A:=fun ps=>match ps with | [.d (.int .i64 p1),.d (.int .i64 p2),.d (.int .i64 p3),.d (.int .i64 p4),.d (.sl 41 p5)]=>fun K=>z0z_L9 g n p1 p2 p3 p4 p5 (fun z0 z1 z2 z3=>K (.exit 4) (mkSt 63 1 [(0,.own 41 0),(1,.d (.int .i64 z0)),(2,.fn 46 []),(6,.d (.int .i64 z1)),(7,.d (.int .i64 z2))] [(0,some (.row 41 z3))])) | _=>fun _=>none
def ymOy:SSt:=mkSh 63 1 [(0,.own 41 0),(1,.int .i64),(2,.fn 46 []),(6,.int .i64)] [(0,.row 41)]
def ygFy (g:C_z0z) (n:Nat):LPT A:=fun ps=>match ps with | [.d (.int .i64 p1),.d (.int .i64 p2),.d (.sl 41 p3)]=>fun K=>z0z_L7 g n p1 p2 p3 (fun z0=>K (.exit 2) (mkSt 63 1 [(0,.own 41 0),(2,.fn 46 [])] [(0,some (.row 41 z0))])) | _=>fun _=>none
noncomputable def ynzy:Code:=(Tryz.f80.body).getD .skip
noncomputable def E_z0z (g:C_z0z):Env A:=mkE [(91,ypPy g.z1z)] [] [(2,⟨[0,1,2,6,7,8],[],[0],[],[],[],[]⟩),(9,⟨[0,1,2,6,7,8],[],[0],[],[],[],[]⟩),(7,⟨[0,1,2,6],[],[0],[],[],[],[]⟩)] [(2,⟨[0,1,2,6,7],[],[0],[],[],[],[]⟩),(9,⟨[0,1,2,6,7],[],[0],[],[],[],[]⟩),(7,⟨[0,2],[],[0],[],[],[],[]⟩)] [(2,yaiy ympy (ygPy g g.N)),(9,yaiy yl9y (ygOy g g.N)),(7,yaiy ymOy (ygFy g g.N))] [] [] [] [(91,0)] [0,2]
theorem ywFy [Fuel]:yamy (E_z0z I_z0z).C:=ct_of (P:=Tryz.prog) (T:=T) (.cons yBry .nil) (by kernel_rfl)
noncomputable def ysuy:Code:=sub [1,1,0,0,0] ynzy
theorem yEby (g:C_z0z) (n:Nat):yaoy (E_z0z g) g.N ysuy ympy (ygPy g) n:=by intro ps; unfold ygPy; split; exact .inr fun R K=>(by kernel_rfl); exact .inl fun R K=>rfl
theorem yB2y [Fuel]:yahy (E_z0z I_z0z) NN ysuy:=yaky ympy (ygPy I_z0z) (by kernel_rfl) ywFy (cuts0 (fun _=>rfl) (by kernel_rfl)) (fun ps R K=>by unfold ygPy; split <;> (try unfold z0z_L2) <;> rfl) (yEby I_z0z)
noncomputable def ysTy:Code:=sub [1,1,1,1,0,0,1,0,1,0,0,0] ynzy
theorem yEvy (g:C_z0z) (n:Nat):yaoy (E_z0z g) g.N ysTy yl9y (ygOy g) n:=by intro ps; unfold ygOy; split; exact .inr fun R K=>(by kernel_rfl); exact .inl fun R K=>rfl
theorem ysry [Fuel]:yahy (E_z0z I_z0z) NN ysTy:=yaky yl9y (ygOy I_z0z) (by kernel_rfl) ywFy (cuts0 (fun _=>rfl) (by kernel_rfl)) (fun ps R K=>by unfold ygOy; split <;> (try unfold z0z_L9) <;> rfl) (yEvy I_z0z)
noncomputable def ysHy:Code:=sub [1,1,1,1,0,0] ynzy
theorem yDGy (g:C_z0z) (n:Nat):yaoy (E_z0z g) g.N ysHy ymOy (ygFy g) n:=by intro ps; unfold ygFy; split; exact .inr fun R K=>(by kernel_rfl); exact .inl fun R K=>rfl
theorem yCIy [Fuel]:yahy (E_z0z I_z0z) NN ysHy:=yaky ymOy (ygFy I_z0z) (by kernel_rfl) ywFy (cutsL (fun _=>rfl) (.cons ysry .nil) (by kernel_rfl)) (fun ps R K=>by unfold ygFy; split <;> (try unfold z0z_L7) <;> rfl) (yDGy I_z0z)
theorem yKhy (g:C_z0z):Same (yqoy (@z0z_ g)) (abody (E_z0z g) Tryz.f80 ynzy 1 [0] [] g.N):=by intro args; unfold yqoy; split; exact .inr fun R k=>(by kernel_rfl); exact .inl fun R k=>rfl
theorem yJMy [Fuel]:Ok 80 (yqoy (@z0z _)):=yacy std (.cons yBry .nil) ⟨rfl,rfl,by kernel_rfl,rfl,rfl,rfl⟩ (yKhy I_z0z) (cutsL (fun _=>rfl) (.cons yB2y (.cons ysry (.cons yCIy .nil))) (by kernel_rfl)) Tryz.func80 (by kernel_rfl) (by kernel_rfl)
abbrev yuhy:Type 1:=List G_Deed→{R:Type}→(List G_Deed→Option R)→Option R
structure C_z20z where
 N:Nat
 z0z:T_z0z
def z20z_ (g:C_z20z) (a1:List G_Deed) {R:Type} (k0:List G_Deed→Option R):Option R :=
 (g.z0z a1 (a1.length:Int) (fun r2=>k0 r2))
noncomputable def yt4y [Fuel]:C_z20z:=⟨NN,@z0z _⟩
noncomputable def z20z [Fuel]:yuhy:=@z20z_ yt4y
def ynMy (g:yuhy):Spec A:=fun args=>match args with | [.arr 41 a1,.fn 46 []]=>fun k=>g a1 (fun z0=>k (.tup []) [.arr 41 z0,.fn 46 []]) | _=>fun _=>none
noncomputable def yHky:Code:=(Tryz.f45.body).getD .skip
noncomputable def yJjy (g:C_z20z):Env A:=mkE [(80,yqoy g.z0z)] [] [] [] [] [] [] [] [(80,0)] [0,1]
theorem yH1y (g:C_z20z):Same (ynMy (@z20z_ g)) (abody (yJjy g) Tryz.f45 yHky 1 [0] [] g.N):=by intro args; unfold ynMy; split; exact .inr fun R k=>(by kernel_rfl); exact .inl fun R k=>rfl
theorem yyuy [Fuel]:Ok 45 (ynMy (@z20z _)):=yacy std (.cons yJMy .nil) ⟨rfl,rfl,by kernel_rfl,rfl,rfl,rfl⟩ (yH1y yt4y) (cuts0 (fun _=>rfl) (by kernel_rfl)) Tryz.func45 (by kernel_rfl) (by kernel_rfl)
end Go.Am
