/- The functions of the program as Lean functions, each shown to be what the code computes, part 1. No condition: lemmas for the claim. -/
import Derived.Test.YtphcgliehecbkaaGreatDoorF0
import Derived.Test.YtphcgliehecbkaaGreatDoorFSh
set_option linter.unusedVariables false
set_option maxRecDepth 100000
namespace Go.Am
open Go Go.Proofs
abbrev yk9y:Type 1:=Int→Int→{R:Type}→(Int→Option R)→Option R
def ynCy (g:Nat) (a1 a2:Int) {R:Type} (k0:Int→Option R):Option R :=
 (bif (decide (a2 < 1)) then k0 0 else (bif (a2 == 0) then none else (bif (decide ((Int.tmod a1 a2) < 0)) then k0 (w64 ((Int.tmod a1 a2) + a2)) else k0 (Int.tmod a1 a2))))
noncomputable def M_Below [Fuel]:yk9y:=@ynCy NN
def ygwy (g:yk9y):Spec A:=fun args=>match args with | [.d (.int .i64 a1),.d (.int .i64 a2)]=>fun k=>g a1 a2 (fun z0=>k (.d (.int .i64 z0)) [.undef,.undef]) | _=>fun _=>none
noncomputable def yEyy:Code:=(Tryz.f49.body).getD .skip
noncomputable def yzZy (g:Nat):Env A:=mkE [] [] [] [] [] [] [] [] [] []
theorem yzoy (g:Nat):Same (ygwy (@ynCy g)) (abody (yzZy g) Tryz.f49 yEyy 0 [] [.asis] g):=by intro args; unfold ygwy; split; exact .inr fun R k=>(by kernel_rfl); exact .inl fun R k=>rfl
theorem yy6y [Fuel]:Ok 49 (ygwy (@M_Below _)):=yacy std .nil ⟨rfl,rfl,by kernel_rfl,rfl,rfl,rfl⟩ (yzoy NN) (cuts0 (fun _=>rfl) (by kernel_rfl)) Tryz.func49 (by kernel_rfl) (by kernel_rfl)
abbrev yf3y:Type 1:=G_Stream→Int→{R:Type}→(Int→G_Stream→Option R)→Option R
structure C_z45z where
 N:Nat
 M_Below:yk9y
def z45z_ (g:C_z45z) (a1:G_Stream) (a2:Int) {R:Type} (k0:Int→G_Stream→Option R):Option R :=
 (bif ((a1.f_L.length:Int) == 0) then (g.M_Below (w64 ((w64 (a1.f_at + 1)) * 7919)) a2 (fun r3=>k0 r3 (⟨a1.f_L,(w64 (a1.f_at + 1))⟩:G_Stream))) else (bif ((a1.f_L.length:Int) == 0) then none else (bif ((a1.f_L.length:Int) == 0) then none else (get_ a1.f_L (Int.tmod (w64 ((w64 (a1.f_at + 1)) - 1)) (a1.f_L.length:Int)) fun x4=>(g.M_Below x4 1073741824 (fun r5=>(g.M_Below (w64 (r5 + (w64 ((w64 (Int.tdiv (w64 ((w64 (a1.f_at + 1)) - 1)) (a1.f_L.length:Int))) * (w64 (7919 + (Int.tmod (w64 ((w64 (a1.f_at + 1)) - 1)) (a1.f_L.length:Int)))))))) a2 (fun r6=>k0 r6 (⟨a1.f_L,(w64 (a1.f_at + 1))⟩:G_Stream)))))))))
noncomputable def yuZy [Fuel]:C_z45z:=⟨NN,@M_Below _⟩
noncomputable def z45z [Fuel]:yf3y:=@z45z_ yuZy
def ydmy (g:yf3y):Spec A:=fun args=>match args with | [.box [.d (.sl 3 a1),.d (.int .i64 a2)],.d (.int .i64 a3)]=>fun k=>g ⟨a1,a2⟩ a3 (fun z0 z1=>k (.d (.int .i64 z0)) [.box [.d (.sl 3 z1.f_L),.d (.int .i64 z1.f_at)],.undef]) | _=>fun _=>none
noncomputable def yFSy:Code:=(Tryz.f21.body).getD .skip
noncomputable def yIgy (g:C_z45z):Env A:=mkE [(49,ygwy g.M_Below)] [] [] [] [] [] [] [] [] [0]
theorem yFRy (g:C_z45z):Same (ydmy (@z45z_ g)) (abody (yIgy g) Tryz.f21 yFSy 1 [0] [.asis] g.N):=by intro args; unfold ydmy; split; exact .inr fun R k=>(by kernel_rfl); exact .inl fun R k=>rfl
theorem yfky [Fuel]:Ok 21 (ydmy (@z45z _)):=yacy std (.cons yy6y .nil) ⟨rfl,rfl,by kernel_rfl,rfl,rfl,rfl⟩ (yFRy yuZy) (cuts0 (fun _=>rfl) (by kernel_rfl)) Tryz.func21 (by kernel_rfl) (by kernel_rfl)
abbrev yk8y:Type 1:=G_Stream→List Int→{R:Type}→(Int→G_Stream→Option R)→Option R
structure C_z64z where
 N:Nat
 z45z:yf3y
def z64z_ (g:C_z64z) (a1:G_Stream) (a2:List Int) {R:Type} (k0:Int→G_Stream→Option R):Option R :=
 (g.z45z a1 (a2.length:Int) (fun r3 r4=>(get_ a2 r3 fun x5=>k0 x5 r4)))
noncomputable def ysxy [Fuel]:C_z64z:=⟨NN,@z45z _⟩
noncomputable def z64z [Fuel]:yk8y:=@z64z_ ysxy
def ygLy (g:yk8y):Spec A:=fun args=>match args with | [.box [.d (.sl 3 a1),.d (.int .i64 a2)],.d (.sl 3 a3)]=>fun k=>g ⟨a1,a2⟩ a3 (fun z0 z1=>k (.d (.int .i64 z0)) [.box [.d (.sl 3 z1.f_L),.d (.int .i64 z1.f_at)],.undef]) | _=>fun _=>none
noncomputable def yGey:Code:=(Tryz.f43.body).getD .skip
noncomputable def yIcy (g:C_z64z):Env A:=mkE [(21,ydmy g.z45z)] [] [] [] [] [] [] [] [] [0]
theorem yF8y (g:C_z64z):Same (ygLy (@z64z_ g)) (abody (yIcy g) Tryz.f43 yGey 1 [0] [.asis] g.N):=by intro args; unfold ygLy; split; exact .inr fun R k=>(by kernel_rfl); exact .inl fun R k=>rfl
theorem yl8y [Fuel]:Ok 43 (ygLy (@z64z _)):=yacy std (.cons yfky .nil) ⟨rfl,rfl,by kernel_rfl,rfl,rfl,rfl⟩ (yF8y ysxy) (cuts0 (fun _=>rfl) (by kernel_rfl)) Tryz.func43 (by kernel_rfl) (by kernel_rfl)
abbrev ykBy:Type 1:=G_Stream→List (List UInt8)→{R:Type}→(List UInt8→G_Stream→Option R)→Option R
structure C_z21z where
 N:Nat
 z45z:yf3y
def z21z_ (g:C_z21z) (a1:G_Stream) (a2:List (List UInt8)) {R:Type} (k0:List UInt8→G_Stream→Option R):Option R :=
 (g.z45z a1 (a2.length:Int) (fun r3 r4=>(get_ a2 r3 fun x5=>k0 x5 r4)))
noncomputable def yvey [Fuel]:C_z21z:=⟨NN,@z45z _⟩
noncomputable def z21z [Fuel]:ykBy:=@z21z_ yvey
def ygQy (g:ykBy):Spec A:=fun args=>match args with | [.box [.d (.sl 3 a1),.d (.int .i64 a2)],.d (.sl 9 a3)]=>fun k=>g ⟨a1,a2⟩ a3 (fun z0 z1=>k (.d (.str z0)) [.box [.d (.sl 3 z1.f_L),.d (.int .i64 z1.f_at)],.undef]) | _=>fun _=>none
noncomputable def yGvy:Code:=(Tryz.f44.body).getD .skip
noncomputable def yI7y (g:C_z21z):Env A:=mkE [(21,ydmy g.z45z)] [] [] [] [] [] [] [] [] [0]
theorem yGNy (g:C_z21z):Same (ygQy (@z21z_ g)) (abody (yI7y g) Tryz.f44 yGvy 1 [0] [.asis] g.N):=by intro args; unfold ygQy; split; exact .inr fun R k=>(by kernel_rfl); exact .inl fun R k=>rfl
theorem yl2y [Fuel]:Ok 44 (ygQy (@z21z _)):=yacy std (.cons yfky .nil) ⟨rfl,rfl,by kernel_rfl,rfl,rfl,rfl⟩ (yGNy yvey) (cuts0 (fun _=>rfl) (by kernel_rfl)) Tryz.func44 (by kernel_rfl) (by kernel_rfl)
abbrev yo5y:Type 1:=G_Stream→Int→Int→{R:Type}→(Int→G_Stream→Option R)→Option R
structure C_z62z where
 N:Nat
 z45z:yf3y
def z62z_ (g:C_z62z) (a1:G_Stream) (a2 a3:Int) {R:Type} (k0:Int→G_Stream→Option R):Option R :=
 (bif (decide (a3 < a2)) then k0 a2 a1 else (g.z45z a1 (w64 ((w64 (a3 - a2)) + 1)) (fun r4 r5=>k0 (w64 (a2 + r4)) r5)))
noncomputable def ysdy [Fuel]:C_z62z:=⟨NN,@z45z _⟩
noncomputable def z62z [Fuel]:yo5y:=@z62z_ ysdy
def yiWy (g:yo5y):Spec A:=fun args=>match args with | [.box [.d (.sl 3 a1),.d (.int .i64 a2)],.d (.int .i64 a3),.d (.int .i64 a4)]=>fun k=>g ⟨a1,a2⟩ a3 a4 (fun z0 z1=>k (.d (.int .i64 z0)) [.box [.d (.sl 3 z1.f_L),.d (.int .i64 z1.f_at)],.undef,.undef]) | _=>fun _=>none
noncomputable def yGWy:Code:=(Tryz.f17.body).getD .skip
noncomputable def yJoy (g:C_z62z):Env A:=mkE [(21,ydmy g.z45z)] [] [] [] [] [] [] [] [] [0]
theorem yFMy (g:C_z62z):Same (yiWy (@z62z_ g)) (abody (yJoy g) Tryz.f17 yGWy 1 [0] [.asis] g.N):=by intro args; unfold yiWy; split; exact .inr fun R k=>(by kernel_rfl); exact .inl fun R k=>rfl
theorem yqzy [Fuel]:Ok 17 (yiWy (@z62z _)):=yacy std (.cons yfky .nil) ⟨rfl,rfl,by kernel_rfl,rfl,rfl,rfl⟩ (yFMy ysdy) (cuts0 (fun _=>rfl) (by kernel_rfl)) Tryz.func17 (by kernel_rfl) (by kernel_rfl)
abbrev yipy:Type 1:=G_Stream→Int→{R:Type}→(Bool→G_Stream→Option R)→Option R
structure C_z57z where
 N:Nat
 z45z:yf3y
def z57z_ (g:C_z57z) (a1:G_Stream) (a2:Int) {R:Type} (k0:Bool→G_Stream→Option R):Option R :=
 (g.z45z a1 a2 (fun r3 r4=>k0 (r3 == 0) r4))
noncomputable def ysgy [Fuel]:C_z57z:=⟨NN,@z45z _⟩
noncomputable def z57z [Fuel]:yipy:=@z57z_ ysgy
def yfsy (g:yipy):Spec A:=fun args=>match args with | [.box [.d (.sl 3 a1),.d (.int .i64 a2)],.d (.int .i64 a3)]=>fun k=>g ⟨a1,a2⟩ a3 (fun z0 z1=>k (.d (.bool z0)) [.box [.d (.sl 3 z1.f_L),.d (.int .i64 z1.f_at)],.undef]) | _=>fun _=>none
noncomputable def yGRy:Code:=(Tryz.f19.body).getD .skip
noncomputable def yJay (g:C_z57z):Env A:=mkE [(21,ydmy g.z45z)] [] [] [] [] [] [] [] [] [0]
theorem yFvy (g:C_z57z):Same (yfsy (@z57z_ g)) (abody (yJay g) Tryz.f19 yGRy 1 [0] [.asis] g.N):=by intro args; unfold yfsy; split; exact .inr fun R k=>(by kernel_rfl); exact .inl fun R k=>rfl
theorem yiUy [Fuel]:Ok 19 (yfsy (@z57z _)):=yacy std (.cons yfky .nil) ⟨rfl,rfl,by kernel_rfl,rfl,rfl,rfl⟩ (yFvy ysgy) (cuts0 (fun _=>rfl) (by kernel_rfl)) Tryz.func19 (by kernel_rfl) (by kernel_rfl)
abbrev yu1y:Type 1:=G_Stream→{R:Type}→(List UInt8→G_Stream→Option R)→Option R
structure C_z76z where
 N:Nat
 z57z:yipy
 z21z:ykBy
def z76z_ (g:C_z76z) (a1:G_Stream) {R:Type} (k0:List UInt8→G_Stream→Option R):Option R :=
 (g.z57z a1 60 (fun r2 r3=>(bif r2 then (g.z21z r3 [[],[107,49],[75,49,65,66],[107,49,97,98,47],[49,97],[107,49,97,98,47,109,109,47,112]] (fun r4 r5=>k0 r4 r5)) else (g.z21z r3 [[107,49,97,98],[107,49,97,97],[107,49,97,98,47,52],[111,104,50,97,98,99],[111,104,50,97,98,100],[119,49,97,119],[110,49,109,109],[103,51,120,121,122,47,112]] (fun r6 r7=>k0 r6 r7)))))
noncomputable def ypFy [Fuel]:C_z76z:=⟨NN,@z57z _,@z21z _⟩
noncomputable def z76z [Fuel]:yu1y:=@z76z_ ypFy
def yl4y (g:yu1y):Spec A:=fun args=>match args with | [.box [.d (.sl 3 a1),.d (.int .i64 a2)]]=>fun k=>g ⟨a1,a2⟩ (fun z0 z1=>k (.d (.str z0)) [.box [.d (.sl 3 z1.f_L),.d (.int .i64 z1.f_at)]]) | _=>fun _=>none
noncomputable def yG0y:Code:=(Tryz.f84.body).getD .skip
noncomputable def yIpy (g:C_z76z):Env A:=mkE [(19,yfsy g.z57z),(44,ygQy g.z21z)] [(6,[1]),(9,[2])] [] [] [] [] [] [] [] [0]
theorem yFiy (g:C_z76z):Same (yl4y (@z76z_ g)) (abody (yIpy g) Tryz.f84 yG0y 3 [0] [.asis] g.N):=by intro args; unfold yl4y; split; exact .inr fun R k=>(by kernel_rfl); exact .inl fun R k=>rfl
theorem yEwy [Fuel]:Ok 84 (yl4y (@z76z _)):=yacy std (.cons yiUy (.cons yl2y .nil)) ⟨rfl,rfl,by kernel_rfl,rfl,rfl,rfl⟩ (yFiy ypFy) (cuts0 (fun _=>rfl) (by kernel_rfl)) Tryz.func84 (by kernel_rfl) (by kernel_rfl)
abbrev yeOy:Type 1:=G_Stream→Int→Int→{R:Type}→(Int→G_Stream→Option R)→Option R
structure C_Stream_Odd where
 N:Nat
 z62z:yo5y
 z57z:yipy
 z64z:yk8y
def yfWy (g:C_Stream_Odd) (a1:G_Stream) (a2 a3:Int) {R:Type} (k0:Int→G_Stream→Option R):Option R :=
 (g.z57z a1 12 (fun r4 r5=>(bif r4 then (g.z64z r5 [(w64 (a2 - 1)),(w64 (a3 + 1)),a2,a3,(-1099511627776),1099511627776] (fun r6 r7=>k0 r6 r7)) else (g.z62z r5 a2 a3 (fun r8 r9=>k0 r8 r9)))))
noncomputable def ye7y [Fuel]:C_Stream_Odd:=⟨NN,@z62z _,@z57z _,@z64z _⟩
noncomputable def Stream_Odd [Fuel]:yeOy:=@yfWy ye7y
def ycAy (g:yeOy):Spec A:=fun args=>match args with | [.box [.d (.sl 3 a1),.d (.int .i64 a2)],.d (.int .i64 a3),.d (.int .i64 a4)]=>fun k=>g ⟨a1,a2⟩ a3 a4 (fun z0 z1=>k (.d (.int .i64 z0)) [.box [.d (.sl 3 z1.f_L),.d (.int .i64 z1.f_at)],.undef,.undef]) | _=>fun _=>none
noncomputable def yFNy:Code:=(Tryz.f46.body).getD .skip
noncomputable def yvwy (g:C_Stream_Odd):Env A:=mkE [(17,yiWy g.z62z),(19,yfsy g.z57z),(43,ygLy g.z64z)] [(16,[1])] [] [] [] [] [] [] [] [0]
theorem yrVy (g:C_Stream_Odd):Same (ycAy (@yfWy g)) (abody (yvwy g) Tryz.f46 yFNy 2 [0] [.asis] g.N):=by intro args; unfold ycAy; split; exact .inr fun R k=>(by kernel_rfl); exact .inl fun R k=>rfl
theorem ygky [Fuel]:Ok 46 (ycAy (@Stream_Odd _)):=yacy std (.cons yqzy (.cons yiUy (.cons yl8y .nil))) ⟨rfl,rfl,by kernel_rfl,rfl,rfl,rfl⟩ (yrVy ye7y) (cuts0 (fun _=>rfl) (by kernel_rfl)) Tryz.func46 (by kernel_rfl) (by kernel_rfl)
abbrev ytLy:Type 1:=G_Stream→Int→{R:Type}→(G_Contact→G_Stream→Option R)→Option R
structure C_z60z where
 N:Nat
 z57z:yipy
 z45z:yf3y
 z64z:yk8y
 z21z:ykBy
 Stream_Odd:yeOy
 z76z:yu1y
def z60z_ (g:C_z60z) (a1:G_Stream) (a2:Int) {R:Type} (k0:G_Contact→G_Stream→Option R):Option R :=
 (g.z64z a1 [1,1,2,3] (fun r3 r4=>(g.z21z r4 [[98,50,48],[98,50,48],[98,52,48]] (fun r5 r6=>(g.z76z r6 (fun r7 r8=>(g.z64z r8 [0,1,2,3,4,5,6,7] (fun r9 r10=>(g.z64z r10 [0,1,2,9] (fun r11 r12=>(g.z21z r12 [[],[],[102,105,110]] (fun r13 r14=>(g.z21z r14 [[],[],[117,115,97]] (fun r15 r16=>(g.z57z r16 100 (fun r17 r18=>(bif r17 then (g.z45z r18 4 (fun r19 r20=>(bif (r19 == 0) then (g.Stream_Odd r20 0 500 (fun r21 r22=>(g.Stream_Odd r22 1 3 (fun r23 r24=>k0 (⟨r21,r23,r5,r7,r9,r11,r13,r15⟩:G_Contact) r24)))) else (bif (r19 == 1) then (g.z21z r20 [[],[66],[98,50,48]] (fun r25 r26=>k0 (⟨a2,r3,r25,r7,r9,r11,r13,r15⟩:G_Contact) r26)) else (bif (r19 == 2) then (g.Stream_Odd r20 0 99999 (fun r27 r28=>(g.Stream_Odd r28 0 99999 (fun r29 r30=>k0 (⟨a2,r3,r5,r7,r27,r29,r13,r15⟩:G_Contact) r30)))) else (g.z21z r20 [[],[65]] (fun r31 r32=>(g.z21z r32 [[49],[117,115,97]] (fun r33 r34=>k0 (⟨a2,r3,r5,r7,r9,r11,r31,r33⟩:G_Contact) r34))))))))) else k0 (⟨a2,r3,r5,r7,r9,r11,r13,r15⟩:G_Contact) r18)))))))))))))))))
noncomputable def ysAy [Fuel]:C_z60z:=⟨NN,@z57z _,@z45z _,@z64z _,@z21z _,@Stream_Odd _,@z76z _⟩
noncomputable def z60z [Fuel]:ytLy:=@z60z_ ysAy
def yl5y (g:ytLy):Spec A:=fun args=>match args with | [.box [.d (.sl 3 a1),.d (.int .i64 a2)],.d (.int .i64 a3)]=>fun k=>g ⟨a1,a2⟩ a3 (fun z0 z1=>k (.agg [.d (.int .i64 z0.f_At),.d (.int .i64 z0.f_Mode),.d (.str z0.f_Band),.d (.str z0.f_Call),.d (.int .i64 z0.f_Sent),.d (.int .i64 z0.f_Heard),.d (.str z0.f_Gave),.d (.str z0.f_Got)]) [.box [.d (.sl 3 z1.f_L),.d (.int .i64 z1.f_at)],.undef]) | _=>fun _=>none
noncomputable def yD6y:Code:=(Tryz.f45.body).getD .skip
noncomputable def yIXy (g:C_z60z):Env A:=mkE [(19,yfsy g.z57z),(21,ydmy g.z45z),(43,ygLy g.z64z),(44,ygQy g.z21z),(46,ycAy g.Stream_Odd),(84,yl4y g.z76z)] [(4,[1]),(5,[8]),(8,[2]),(11,[3]),(16,[4]),(19,[5]),(22,[6]),(25,[7]),(33,[10]),(36,[11]),(51,[9])] [] [] [] [] [] [] [] [0]
theorem yGyy (g:C_z60z):Same (yl5y (@z60z_ g)) (abody (yIXy g) Tryz.f45 yD6y 12 [0] [.asis] g.N):=by intro args; unfold yl5y; split; exact .inr fun R k=>(by kernel_rfl); exact .inl fun R k=>rfl
theorem yxAy [Fuel]:Ok 45 (yl5y (@z60z _)):=yacy std (.cons yiUy (.cons yfky (.cons yl8y (.cons yl2y (.cons ygky (.cons yEwy .nil)))))) ⟨rfl,rfl,by kernel_rfl,rfl,rfl,rfl⟩ (yGyy ysAy) (cuts0 (fun _=>rfl) (by kernel_rfl)) Tryz.func45 (by kernel_rfl) (by kernel_rfl)
abbrev ynZy:Type 1:=Int→{R:Type}→(Int→Option R)→Option R
def yqAy (g:Nat) (a1:Int) {R:Type} (k0:Int→Option R):Option R :=
 (bif (decide (a1 < 0)) then k0 (-1) else (bif (decide (a1 > 0)) then k0 1 else k0 0))
noncomputable def Q_sign [Fuel]:ynZy:=@yqAy NN
def yhBy (g:ynZy):Spec A:=fun args=>match args with | [.d (.int .i64 a1)]=>fun k=>g a1 (fun z0=>k (.d (.int .i64 z0)) [.undef]) | _=>fun _=>none
noncomputable def yHxy:Code:=(Tryz.f86.body).getD .skip
noncomputable def yDJy (g:Nat):Env A:=mkE [] [] [] [] [] [] [] [] [] []
theorem yBAy (g:Nat):Same (yhBy (@yqAy g)) (abody (yDJy g) Tryz.f86 yHxy 0 [] [.asis] g):=by intro args; unfold yhBy; split; exact .inr fun R k=>(by kernel_rfl); exact .inl fun R k=>rfl
theorem yB8y [Fuel]:Ok 86 (yhBy (@Q_sign _)):=yacy std .nil ⟨rfl,rfl,by kernel_rfl,rfl,rfl,rfl⟩ (yBAy NN) (cuts0 (fun _=>rfl) (by kernel_rfl)) Tryz.func86 (by kernel_rfl) (by kernel_rfl)
abbrev ya2y:Type 1:=List UInt8→List UInt8→{R:Type}→(Int→Option R)→Option R
def strings_Compare [Fuel]:ya2y:=@X_cmp
def yaBy (g:ya2y):Spec A:=yiwy g
theorem ya9y [Fuel]:Ok 65 (yaBy (@strings_Compare _)):=⟨ykoy (yq5y (Any.strings_Compare Tryz.lays106)),ynky,yaHy (fn:=Tryz.f65) Tryz.func65 (by kernel_rfl) (by kernel_rfl)⟩
theorem ycNy [Fuel]:OkD 65 (yaBy (@strings_Compare _)):=⟨ykoy (yq5y (Any.strings_Compare Tryz.lays106)),ynky,yaHy (fn:=Tryz.f65) Tryz.func65 (by kernel_rfl) (by kernel_rfl)⟩
abbrev T_z2z:Type 1:=G_Deed→G_Deed→{R:Type}→(Int→Option R)→Option R
structure C_z2z where
 N:Nat
 strings_Compare:ya2y
 Q_sign:ynZy
def z2z_ (g:C_z2z) (a1 a2:G_Deed) {R:Type} (k0:Int→Option R):Option R :=
 (bif (a1.f_At != a2.f_At) then (g.Q_sign (w64 (a1.f_At - a2.f_At)) (fun r3=>k0 r3)) else (bif (!(a1.f_Site == a2.f_Site)) then (g.strings_Compare a1.f_Site a2.f_Site (fun r4=>k0 r4)) else (g.Q_sign (w64 (a1.f_No - a2.f_No)) (fun r5=>k0 r5))))
noncomputable def I_z2z [Fuel]:C_z2z:=⟨NN,@strings_Compare _,@Q_sign _⟩
noncomputable def z2z [Fuel]:T_z2z:=@z2z_ I_z2z
def ylFy (g:T_z2z):Spec A:=fun args=>match args with | [.agg [.d (.str a1),.d (.int .i64 a2),.d (.int .i64 a3),.d (.int .i64 a4),.d (.int .i64 a5),.d (.int .i64 a6),.d (.str a7),.d (.str a8),.d (.int .i64 a9),.d (.int .i64 a10),.d (.str a11),.d (.str a12),.d (.str a13),.d (.str a14),.d (.int .i64 a15)],.agg [.d (.str a16),.d (.int .i64 a17),.d (.int .i64 a18),.d (.int .i64 a19),.d (.int .i64 a20),.d (.int .i64 a21),.d (.str a22),.d (.str a23),.d (.int .i64 a24),.d (.int .i64 a25),.d (.str a26),.d (.str a27),.d (.str a28),.d (.str a29),.d (.int .i64 a30)]]=>fun k=>g ⟨a1,a2,a3,a4,⟨a5,a6,a7,a8,a9,a10,a11,a12⟩,a13,a14,a15⟩ ⟨a16,a17,a18,a19,⟨a20,a21,a22,a23,a24,a25,a26,a27⟩,a28,a29,a30⟩ (fun z0=>k (.d (.int .i64 z0)) [.undef,.undef]) | _=>fun _=>none
noncomputable def yHFy:Code:=(Tryz.f48.body).getD .skip
noncomputable def E_z2z (g:C_z2z):Env A:=mkE [(65,yaBy g.strings_Compare),(86,yhBy g.Q_sign)] [(2,[0]),(3,[1])] [] [] [] [] [] [] [] []
theorem yHWy (g:C_z2z):Same (ylFy (@z2z_ g)) (abody (E_z2z g) Tryz.f48 yHFy 2 [] [.asis] g.N):=by intro args; unfold ylFy; split; exact .inr fun R k=>(by kernel_rfl); exact .inl fun R k=>rfl
theorem yoIy [Fuel]:Ok 48 (ylFy (@z2z _)):=yacy std (.cons ya9y (.cons yB8y .nil)) ⟨rfl,rfl,by kernel_rfl,rfl,rfl,rfl⟩ (yHWy I_z2z) (cuts0 (fun _=>rfl) (by kernel_rfl)) Tryz.func48 (by kernel_rfl) (by kernel_rfl)
abbrev T_z1z:Type 1:=List G_Deed→Int→Int→{R:Type}→(List G_Deed→Option R)→Option R
structure C_z1z where
 N:Nat
 z2z:T_z2z
def z1z_L4 (g:C_z1z):Nat→Int→Int→Int→Int→List G_Deed→{R:Type}→(Int→Int→Int→List G_Deed→Option R)→Option R
 | 0,_,_,_,_,_,_,_=>none
 | n + 1,v31,v32,v33,v34,v35,_,e0=>(bif (decide (v34 > v31)) then (inr v35 v34 (at_ v35 v34 fun x43=>(inr v35 (w64 (v34 - 1)) (at_ v35 (w64 (v34 - 1)) fun x44=>(g.z2z x43 x44 (fun r45=>(bif (decide (r45 < 0)) then (inr v35 (w64 (v34 - 1)) (at_ v35 (w64 (v34 - 1)) fun x46=>(inr v35 v34 (at_ v35 v34 fun x47=>(inr v35 v34 (at_ v35 v34 fun x48=>(inr (set_ v35 v34 x46) (w64 (v34 - 1)) (at_ (set_ v35 v34 x46) (w64 (v34 - 1)) fun x49=>z1z_L4 g n v31 v32 v33 (w64 (v34 - 1)) (set_ (set_ v35 v34 x46) (w64 (v34 - 1)) x47) e0)))))))) else e0 v31 v32 v33 v35))))))) else e0 v31 v32 v33 v35)
def z1z_L1 (g:C_z1z):Nat→Int→Int→Int→List G_Deed→{R:Type}→(List G_Deed→Option R)→Option R
 | 0,_,_,_,_,_,_=>none
 | n + 1,v4,v5,v6,v7,_,e0=>(bif (decide (v6 < v5)) then (z1z_L4 g g.N v4 v5 v6 v6 v7 (fun e50 e51 e52 e53=>z1z_L1 g n e50 e51 (w64 (e52 + 1)) e53 e0)) else e0 v7)
def z1z_ (g:C_z1z) (a1:List G_Deed) (a2 a3:Int) {R:Type} (k0:List G_Deed→Option R):Option R :=
 (z1z_L1 g g.N a2 a3 (w64 (a2 + 1)) a1 (fun e54=>k0 e54))
noncomputable def I_z1z [Fuel]:C_z1z:=⟨NN,@z2z _⟩
noncomputable def z1z [Fuel]:T_z1z:=@z1z_ I_z1z
def ypPy (g:T_z1z):Spec A:=fun args=>match args with | [.arr 35 a1,.d (.int .i64 a2),.d (.int .i64 a3),.fn 48 []]=>fun k=>g a1 a2 a3 (fun z0=>k (.tup []) [.arr 35 z0,.undef,.undef,.fn 48 []]) | _=>fun _=>none
def ykKy:SSt:=mkSh 53 1 [(0,.own 35 0),(1,.int .i64),(2,.int .i64),(3,.fn 48 []),(8,.int .i64),(9,.int .i64)] [(0,.row 35)]
def yggy (g:C_z1z) (n:Nat):LPT A:=fun ps=>match ps with | [.d (.int .i64 p1),.d (.int .i64 p2),.d (.int .i64 p3),.d (.int .i64 p4),.d (.sl 35 p5)]=>fun K=>z1z_L4 g n p1 p2 p3 p4 p5 (fun z0 z1 z2 z3=>K (.exit 2) (mkSt 53 1 [(0,.own 35 0),(1,.d (.int .i64 z0)),(2,.d (.int .i64 z1)),(3,.fn 48 []),(8,.d (.int .i64 z2))] [(0,some (.row 35 z3))])) | _=>fun _=>none
def ykJy:SSt:=mkSh 53 1 [(0,.own 35 0),(1,.int .i64),(2,.int .i64),(3,.fn 48 []),(8,.int .i64)] [(0,.row 35)]
def yf7y (g:C_z1z) (n:Nat):LPT A:=fun ps=>match ps with | [.d (.int .i64 p1),.d (.int .i64 p2),.d (.int .i64 p3),.d (.sl 35 p4)]=>fun K=>z1z_L1 g n p1 p2 p3 p4 (fun z0=>K (.exit 0) (mkSt 53 1 [(0,.own 35 0),(3,.fn 48 [])] [(0,some (.row 35 z0))])) | _=>fun _=>none
noncomputable def yqly:Code:=(Tryz.f92.body).getD .skip
noncomputable def E_z1z (g:C_z1z):Env A:=mkE [(48,ylFy g.z2z)] [] [(4,⟨[0,1,2,3,8,9],[],[0],[],[],[],[]⟩),(1,⟨[0,1,2,3,8],[],[0],[],[],[],[]⟩)] [(4,⟨[0,1,2,3,8],[],[0],[],[],[],[]⟩),(1,⟨[0,3],[],[0],[],[],[],[]⟩)] [(4,yaiy ykKy (yggy g g.N)),(1,yaiy ykJy (yf7y g g.N))] [] [] [] [] [0,3]
theorem yBky [Fuel]:yajy (E_z1z I_z1z).C:=ct_of (P:=Tryz.prog) (T:=T) (.cons yoIy .nil) (by kernel_rfl)
noncomputable def yrry:Code:=sub [1,0,0,1,0,0,1,0,0] yqly
theorem yDUy (g:C_z1z) (n:Nat):yamy (E_z1z g) g.N yrry ykKy (yggy g) n:=by intro ps; unfold yggy; split; exact .inr fun R K=>(by kernel_rfl); exact .inl fun R K=>rfl
theorem yq0y [Fuel]:yagy (E_z1z I_z1z) NN yrry:=yaky ykKy (yggy I_z1z) (by kernel_rfl) yBky (cuts0 (fun _=>rfl) (by kernel_rfl)) (fun ps R K=>by unfold yggy; split <;> (try unfold z1z_L4) <;> rfl) (yDUy I_z1z)
noncomputable def yqYy:Code:=sub [1,0,0] yqly
theorem yCzy (g:C_z1z) (n:Nat):yamy (E_z1z g) g.N yqYy ykJy (yf7y g) n:=by intro ps; unfold yf7y; split; exact .inr fun R K=>(by kernel_rfl); exact .inl fun R K=>rfl
theorem yBQy [Fuel]:yagy (E_z1z I_z1z) NN yqYy:=yaky ykJy (yf7y I_z1z) (by kernel_rfl) yBky (cutsL (fun _=>rfl) (.cons yq0y .nil) (by kernel_rfl)) (fun ps R K=>by unfold yf7y; split <;> (try unfold z1z_L1) <;> rfl) (yCzy I_z1z)
theorem yIuy (g:C_z1z):Same (ypPy (@z1z_ g)) (abody (E_z1z g) Tryz.f92 yqly 1 [0] [] g.N):=by intro args; unfold ypPy; split; exact .inr fun R k=>(by kernel_rfl); exact .inl fun R k=>rfl
theorem yB5y [Fuel]:Ok 92 (ypPy (@z1z _)):=yacy std (.cons yoIy .nil) ⟨rfl,rfl,by kernel_rfl,rfl,rfl,rfl⟩ (yIuy I_z1z) (cutsL (fun _=>rfl) (.cons yq0y (.cons yBQy .nil)) (by kernel_rfl)) Tryz.func92 (by kernel_rfl) (by kernel_rfl)
abbrev T_z0z:Type 1:=List G_Deed→Int→{R:Type}→(List G_Deed→Option R)→Option R
structure C_z0z where
 N:Nat
 z1z:T_z1z
def z0z_L2 (g:C_z0z):Nat→Int→Int→Int→Int→List G_Deed→{R:Type}→(Int→Int→Int→List G_Deed→Option R)→Option R
 | 0,_,_,_,_,_,_,_=>none
 | n + 1,v3,v4,v5,v6,v7,_,e0=>(bif (decide (v6≤v3)) then (g.z1z v7 v5 v6 (fun r9=>z0z_L2 g n v3 v4 v6 (w64 (v6 + v4)) r9 e0)) else e0 v3 v4 v5 v7)
def z0z_L9 (g:C_z0z):Nat→Int→Int→Int→Int→List G_Deed→{R:Type}→(Int→Int→Int→List G_Deed→Option R)→Option R
 | 0,_,_,_,_,_,_,_=>none
 | n + 1,v27,v28,v29,v30,v31,_,e0=>(bif (decide (v30≤v27)) then none else e0 v27 v28 v29 v31)
def z0z_L7 (g:C_z0z):Nat→Int→Int→List G_Deed→{R:Type}→(List G_Deed→Option R)→Option R
 | 0,_,_,_,_,_=>none
 | n + 1,v15,v16,v17,_,e0=>(bif (decide (v16 < v15)) then (z0z_L9 g g.N v15 v16 0 (w64 (2 * v16)) v17 (fun e32 e33 e34 e35=>(bif (decide ((w64 (e34 + e33)) < e32)) then none else z0z_L7 g n e32 (w64 (e33 * 2)) e35 e0))) else e0 v17)
def z0z_ (g:C_z0z) (a1:List G_Deed) (a2:Int) {R:Type} (k0:List G_Deed→Option R):Option R :=
 (z0z_L2 g g.N a2 20 0 20 a1 (fun e10 e11 e12 e13=>(g.z1z e13 e12 e10 (fun r14=>(z0z_L7 g g.N e10 e11 r14 (fun e36=>k0 e36))))))
noncomputable def I_z0z [Fuel]:C_z0z:=⟨NN,@z1z _⟩
noncomputable def z0z [Fuel]:T_z0z:=@z0z_ I_z0z
def yoFy (g:T_z0z):Spec A:=fun args=>match args with | [.arr 35 a1,.d (.int .i64 a2),.fn 48 []]=>fun k=>g a1 a2 (fun z0=>k (.tup []) [.arr 35 z0,.undef,.fn 48 []]) | _=>fun _=>none
def ylny:SSt:=mkSh 63 1 [(0,.own 35 0),(1,.int .i64),(2,.fn 48 []),(6,.int .i64),(7,.int .i64),(8,.int .i64)] [(0,.row 35)]
def yfYy (g:C_z0z) (n:Nat):LPT A:=fun ps=>match ps with | [.d (.int .i64 p1),.d (.int .i64 p2),.d (.int .i64 p3),.d (.int .i64 p4),.d (.sl 35 p5)]=>fun K=>z0z_L2 g n p1 p2 p3 p4 p5 (fun z0 z1 z2 z3=>K (.exit 0) (mkSt 63 1 [(0,.own 35 0),(1,.d (.int .i64 z0)),(2,.fn 48 []),(6,.d (.int .i64 z1)),(7,.d (.int .i64 z2))] [(0,some (.row 35 z3))])) | _=>fun _=>none
def ylty:SSt:=mkSh 63 1 [(0,.own 35 0),(1,.int .i64),(2,.fn 48 []),(6,.int .i64),(7,.int .i64),(8,.int .i64)] [(0,.row 35)]
def yf2y (g:C_z0z) (n:Nat):LPT A:=fun ps=>match ps with | [.d (.int .i64 p1),.d (.int .i64 p2),.d (.int .i64 p3),.d (.int .i64 p4),.d (.sl 35 p5)]=>fun K=>z0z_L9 g n p1 p2 p3 p4 p5 (fun z0 z1 z2 z3=>K (.exit 4) (mkSt 63 1 [(0,.own 35 0),(1,.d (.int .i64 z0)),(2,.fn 48 []),(6,.d (.int .i64 z1)),(7,.d (.int .i64 z2))] [(0,some (.row 35 z3))])) | _=>fun _=>none
def ylry:SSt:=mkSh 63 1 [(0,.own 35 0),(1,.int .i64),(2,.fn 48 []),(6,.int .i64)] [(0,.row 35)]
def yf4y (g:C_z0z) (n:Nat):LPT A:=fun ps=>match ps with | [.d (.int .i64 p1),.d (.int .i64 p2),.d (.sl 35 p3)]=>fun K=>z0z_L7 g n p1 p2 p3 (fun z0=>K (.exit 2) (mkSt 63 1 [(0,.own 35 0),(2,.fn 48 [])] [(0,some (.row 35 z0))])) | _=>fun _=>none
noncomputable def ymgy:Code:=(Tryz.f85.body).getD .skip
noncomputable def E_z0z (g:C_z0z):Env A:=mkE [(92,ypPy g.z1z)] [] [(2,⟨[0,1,2,6,7,8],[],[0],[],[],[],[]⟩),(9,⟨[0,1,2,6,7,8],[],[0],[],[],[],[]⟩),(7,⟨[0,1,2,6],[],[0],[],[],[],[]⟩)] [(2,⟨[0,1,2,6,7],[],[0],[],[],[],[]⟩),(9,⟨[0,1,2,6,7],[],[0],[],[],[],[]⟩),(7,⟨[0,2],[],[0],[],[],[],[]⟩)] [(2,yaiy ylny (yfYy g g.N)),(9,yaiy ylty (yf2y g g.N)),(7,yaiy ylry (yf4y g g.N))] [] [] [] [(92,0)] [0,2]
theorem yvay [Fuel]:yajy (E_z0z I_z0z).C:=ct_of (P:=Tryz.prog) (T:=T) (.cons yB5y .nil) (by kernel_rfl)
noncomputable def yq4y:Code:=sub [1,1,0,0,0] ymgy
theorem yDLy (g:C_z0z) (n:Nat):yamy (E_z0z g) g.N yq4y ylny (yfYy g) n:=by intro ps; unfold yfYy; split; exact .inr fun R K=>(by kernel_rfl); exact .inl fun R K=>rfl
theorem yA8y [Fuel]:yagy (E_z0z I_z0z) NN yq4y:=yaky ylny (yfYy I_z0z) (by kernel_rfl) yvay (cuts0 (fun _=>rfl) (by kernel_rfl)) (fun ps R K=>by unfold yfYy; split <;> (try unfold z0z_L2) <;> rfl) (yDLy I_z0z)
noncomputable def yrGy:Code:=sub [1,1,1,1,0,0,1,0,1,0,0,0] ymgy
theorem yCUy (g:C_z0z) (n:Nat):yamy (E_z0z g) g.N yrGy ylty (yf2y g) n:=by intro ps; unfold yf2y; split; exact .inr fun R K=>(by kernel_rfl); exact .inl fun R K=>rfl
theorem yrpy [Fuel]:yagy (E_z0z I_z0z) NN yrGy:=yaky ylty (yf2y I_z0z) (by kernel_rfl) yvay (cuts0 (fun _=>rfl) (by kernel_rfl)) (fun ps R K=>by unfold yf2y; split <;> (try unfold z0z_L9) <;> rfl) (yCUy I_z0z)
noncomputable def yq2y:Code:=sub [1,1,1,1,0,0] ymgy
theorem yCHy (g:C_z0z) (n:Nat):yamy (E_z0z g) g.N yq2y ylry (yf4y g) n:=by intro ps; unfold yf4y; split; exact .inr fun R K=>(by kernel_rfl); exact .inl fun R K=>rfl
theorem yBNy [Fuel]:yagy (E_z0z I_z0z) NN yq2y:=yaky ylry (yf4y I_z0z) (by kernel_rfl) yvay (cutsL (fun _=>rfl) (.cons yrpy .nil) (by kernel_rfl)) (fun ps R K=>by unfold yf4y; split <;> (try unfold z0z_L7) <;> rfl) (yCHy I_z0z)
theorem yI3y (g:C_z0z):Same (yoFy (@z0z_ g)) (abody (E_z0z g) Tryz.f85 ymgy 1 [0] [] g.N):=by intro args; unfold yoFy; split; exact .inr fun R k=>(by kernel_rfl); exact .inl fun R k=>rfl
theorem yJsy [Fuel]:Ok 85 (yoFy (@z0z _)):=yacy std (.cons yB5y .nil) ⟨rfl,rfl,by kernel_rfl,rfl,rfl,rfl⟩ (yI3y I_z0z) (cutsL (fun _=>rfl) (.cons yA8y (.cons yrpy (.cons yBNy .nil))) (by kernel_rfl)) Tryz.func85 (by kernel_rfl) (by kernel_rfl)
abbrev yuSy:Type 1:=List G_Deed→{R:Type}→(List G_Deed→Option R)→Option R
structure C_z19z where
 N:Nat
 z0z:T_z0z
def z19z_ (g:C_z19z) (a1:List G_Deed) {R:Type} (k0:List G_Deed→Option R):Option R :=
 (g.z0z a1 (a1.length:Int) (fun r2=>k0 r2))
noncomputable def ytFy [Fuel]:C_z19z:=⟨NN,@z0z _⟩
noncomputable def z19z [Fuel]:yuSy:=@z19z_ ytFy
def ymxy (g:yuSy):Spec A:=fun args=>match args with | [.arr 35 a1,.fn 48 []]=>fun k=>g a1 (fun z0=>k (.tup []) [.arr 35 z0,.fn 48 []]) | _=>fun _=>none
noncomputable def yFoy:Code:=(Tryz.f47.body).getD .skip
noncomputable def yINy (g:C_z19z):Env A:=mkE [(85,yoFy g.z0z)] [] [] [] [] [] [] [] [(85,0)] [0,1]
theorem yFKy (g:C_z19z):Same (ymxy (@z19z_ g)) (abody (yINy g) Tryz.f47 yFoy 1 [0] [] g.N):=by intro args; unfold ymxy; split; exact .inr fun R k=>(by kernel_rfl); exact .inl fun R k=>rfl
theorem ywHy [Fuel]:Ok 47 (ymxy (@z19z _)):=yacy std (.cons yJsy .nil) ⟨rfl,rfl,by kernel_rfl,rfl,rfl,rfl⟩ (yFKy ytFy) (cuts0 (fun _=>rfl) (by kernel_rfl)) Tryz.func47 (by kernel_rfl) (by kernel_rfl)
end Go.Am
