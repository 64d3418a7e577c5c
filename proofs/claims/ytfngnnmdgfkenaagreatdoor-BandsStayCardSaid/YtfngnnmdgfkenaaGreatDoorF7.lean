/- The functions of the program as Lean functions, each shown to be what the code computes, part 7. No condition: lemmas for the claim. -/
import Derived.Test.YtfngnnmdgfkenaaGreatDoorF0
import Derived.Test.YtfngnnmdgfkenaaGreatDoorFSh
import Derived.Test.YtfngnnmdgfkenaaGreatDoorF1
import Derived.Test.YtfngnnmdgfkenaaGreatDoorF5
import Derived.Test.YtfngnnmdgfkenaaGreatDoorF6
set_option linter.unusedVariables false
set_option maxRecDepth 100000
namespace Go.Am
open Go Go.Proofs
abbrev ytIy:Type 1:=List G_Row→{R:Type}→(List G_Row→Option R)→Option R
structure C_z25z where
 N:Nat
 z64z:yzYy
def z25z_L4 (g:C_z25z):Nat→Int→Int→List G_Row→List G_Row→{R:Type}→(List G_Row→Option R)→Option R
 | 0,_,_,_,_,_,_=>none
 | n + 1,v3,v4,v5,v6,_,e0=>(bif (decide (v4 < v3)) then (inr v5 v4 (at_ v5 v4 fun x11=>(bif (decide ((w64 ((v6.length:Int) - 1)) ≥ 0)) then (inr v6 (w64 ((v6.length:Int) - 1)) (at_ v6 (w64 ((v6.length:Int) - 1)) fun x12=>(bif (decide (x11.f_From≤x12.f_To)) then (inr v6 (w64 ((v6.length:Int) - 1)) (at_ v6 (w64 ((v6.length:Int) - 1)) fun x13=>(inr v6 (w64 ((v6.length:Int) - 1)) (at_ v6 (w64 ((v6.length:Int) - 1)) fun x14=>z25z_L4 g n v3 (w64 (v4 + 1)) v5 (set_ v6 (w64 ((v6.length:Int) - 1)) (⟨x14.f_From,(if x11.f_To > x13.f_To then x11.f_To else x13.f_To)⟩:G_Row)) e0)))) else (bif (decide ((v6.length + [x11].length) * 16≤yagy)) then z25z_L4 g n v3 (w64 (v4 + 1)) v5 (v6 ++ [x11]) e0 else none)))) else (bif (decide ((v6.length + [x11].length) * 16≤yagy)) then z25z_L4 g n v3 (w64 (v4 + 1)) v5 (v6 ++ [x11]) e0 else none)))) else e0 v6)
def z25z_ (g:C_z25z) (a1:List G_Row) {R:Type} (k0:List G_Row→Option R):Option R :=
 (g.z64z a1 (fun r2=>(z25z_L4 g g.N (r2.length:Int) 0 r2 [] (fun e15=>k0 e15))))
noncomputable def ycGy [Fuel]:C_z25z:=⟨NN,@z64z _⟩
noncomputable def z25z [Fuel]:ytIy:=@z25z_ ycGy
def ykOy (g:ytIy):Spec A:=fun args=>match args with | [.arr 40 a1]=>fun k=>g a1 (fun z0=>k (.arr 40 z0) [.undef]) | _=>fun _=>none
def ylmy:SSt:=mkSh 48 5 [(3,.own 40 1),(9,.own 40 0),(10,.int .i64),(11,.int .i64)] [(0,.row 40),(1,.row 40)]
def yfDy (g:C_z25z) (n:Nat):LPT A:=fun ps=>match ps with | [.d (.int .i64 p1),.d (.int .i64 p2),.d (.sl 40 p3),.d (.sl 40 p4)]=>fun K=>z25z_L4 g n p1 p2 p3 p4 (fun z0=>K (.exit 0) (mkSt 48 5 [(3,.own 40 1)] [(1,some (.row 40 z0))])) | _=>fun _=>none
noncomputable def yCoy:Code:=(Tryz.f70.body).getD .skip
noncomputable def ysny (g:C_z25z):Env A:=mkE [(109,yj8y g.z64z)] [(5,[2]),(44,[3]),(45,[4])] [(4,⟨[3,9,10,11],[(3,40,1)],[0],[],[],[],[]⟩)] [(4,⟨[3],[],[1],[],[],[],[]⟩)] [(4,yady ylmy (yfDy g g.N))] [] [] [] [(109,0)] []
theorem yLCy [Fuel]:yahy (ysny ycGy).C:=ct_of (P:=Tryz.prog) (T:=T) (.cons yEfy .nil) (by kernel_rfl)
noncomputable def yrLy:Code:=sub [1,1,1,0,1,0,0] yCoy
theorem yHxy (g:C_z25z) (n:Nat):yaiy (ysny g) g.N yrLy ylmy (yfDy g) n:=by intro ps; unfold yfDy; split; exact .inr fun R K=>(by kernel_rfl); exact .inl fun R K=>rfl
theorem yFRy [Fuel]:yaby (ysny ycGy) NN yrLy:=yacy ylmy (yfDy ycGy) (by kernel_rfl) yLCy (cuts0 (fun _=>rfl) (by kernel_rfl)) (fun ps R K=>by unfold yfDy; split <;> (try unfold z25z_L4) <;> rfl) (yHxy ycGy)
theorem yOPy (g:C_z25z):Same (ykOy (@z25z_ g)) (abody (ysny g) Tryz.f70 yCoy 5 [0] [.arr 40] g.N):=by intro args; unfold ykOy; split; exact .inr fun R k=>(by kernel_rfl); exact .inl fun R k=>rfl
theorem yoGy [Fuel]:Ok 70 (ykOy (@z25z _)):=yaay std (.cons yEfy .nil) ⟨rfl,rfl,by kernel_rfl,rfl,rfl,rfl⟩ (yOPy ycGy) (cutsL (fun _=>rfl) (.cons yFRy .nil) (by kernel_rfl)) Tryz.func70 (by kernel_rfl) (by kernel_rfl)
abbrev ysCy:Type 1:=List G_Segment→List UInt8→Int→Int→{R:Type}→(List G_Row→Option R)→Option R
structure C_z47z where
 N:Nat
 kit_Has:yjfy
 z25z:ytIy
 z86z:yAcy
def z47z_L3 (g:C_z47z):Nat→List UInt8→Int→Int→List G_Segment→Int→Int→List G_Row→{R:Type}→(List G_Row→Option R)→Option R
 | 0,_,_,_,_,_,_,_,_,_=>none
 | n + 1,v5,v6,v7,v8,v9,v10,v11,_,e0=>(bif (decide (v10 < v9)) then (get_ v8 v10 fun x16=>(bif (x16.f_Class == v5) then (bif (v6 == 0) then (g.kit_Has x16.f_Time v7 (fun r17=>(bif r17 then (bif (decide ((v11.length + [(⟨x16.f_Low,x16.f_High⟩:G_Row)].length) * 16≤yagy)) then z47z_L3 g n v5 v6 v7 v8 v9 (w64 (v10 + 1)) (v11 ++ [(⟨x16.f_Low,x16.f_High⟩:G_Row)]) e0 else none) else z47z_L3 g n v5 v6 v7 v8 v9 (w64 (v10 + 1)) v11 e0))) else (g.z86z x16.f_Modes v6 (fun r18=>(bif r18 then (g.kit_Has x16.f_Time v7 (fun r19=>(bif r19 then (bif (decide ((v11.length + [(⟨x16.f_Low,x16.f_High⟩:G_Row)].length) * 16≤yagy)) then z47z_L3 g n v5 v6 v7 v8 v9 (w64 (v10 + 1)) (v11 ++ [(⟨x16.f_Low,x16.f_High⟩:G_Row)]) e0 else none) else z47z_L3 g n v5 v6 v7 v8 v9 (w64 (v10 + 1)) v11 e0))) else z47z_L3 g n v5 v6 v7 v8 v9 (w64 (v10 + 1)) v11 e0)))) else z47z_L3 g n v5 v6 v7 v8 v9 (w64 (v10 + 1)) v11 e0)) else e0 v11)
def z47z_ (g:C_z47z) (a1:List G_Segment) (a2:List UInt8) (a3 a4:Int) {R:Type} (k0:List G_Row→Option R):Option R :=
 (z47z_L3 g g.N a2 a3 a4 a1 (a1.length:Int) 0 [] (fun e20=>(g.z25z e20 (fun r21=>k0 r21))))
noncomputable def yday [Fuel]:C_z47z:=⟨NN,@kit_Has _,@z25z _,@z86z _⟩
noncomputable def z47z [Fuel]:ysCy:=@z47z_ yday
def ykBy (g:ysCy):Spec A:=fun args=>match args with | [.d (.sl 52 a1),.d (.str a2),.d (.int .i64 a3),.d (.int .i64 a4)]=>fun k=>g a1 a2 a3 a4 (fun z0=>k (.arr 40 z0) [.undef,.undef,.undef,.undef]) | _=>fun _=>none
def ymJy:SSt:=mkSh 49 5 [(1,.str),(2,.int .i64),(3,.int .i64),(9,.own 40 0),(12,.sl 52),(13,.int .i64),(14,.int .i64)] [(0,.row 40)]
def ygqy (g:C_z47z) (n:Nat):LPT A:=fun ps=>match ps with | [.d (.str p1),.d (.int .i64 p2),.d (.int .i64 p3),.d (.sl 52 p4),.d (.int .i64 p5),.d (.int .i64 p6),.d (.sl 40 p7)]=>fun K=>z47z_L3 g n p1 p2 p3 p4 p5 p6 p7 (fun z0=>K (.exit 0) (mkSt 49 5 [(9,.own 40 0)] [(0,some (.row 40 z0))])) | _=>fun _=>none
noncomputable def yEpy:Code:=(Tryz.f66.body).getD .skip
noncomputable def yrQy (g:C_z47z):Env A:=mkE [(67,yfmy g.kit_Has),(70,ykOy g.z25z),(108,yoOy g.z86z)] [(11,[1]),(44,[2]),(45,[3]),(48,[4])] [(3,⟨[1,2,3,9,12,13,14],[(9,40,0)],[],[],[],[],[]⟩)] [(3,⟨[9],[],[0],[],[],[],[]⟩)] [(3,yady ymJy (ygqy g g.N))] [] [] [] [(70,0)] []
theorem yPny [Fuel]:yahy (yrQy yday).C:=ct_of (P:=Tryz.prog) (T:=T) (.cons yiay (.cons yoGy (.cons yDgy .nil))) (by kernel_rfl)
noncomputable def ysry:Code:=sub [1,1,0,1,0,0] yEpy
theorem yHky (g:C_z47z) (n:Nat):yaiy (yrQy g) g.N ysry ymJy (ygqy g) n:=by intro ps; unfold ygqy; split; exact .inr fun R K=>(by kernel_rfl); exact .inl fun R K=>rfl
theorem yFHy [Fuel]:yaby (yrQy yday) NN ysry:=yacy ymJy (ygqy yday) (by kernel_rfl) yPny (cuts0 (fun _=>rfl) (by kernel_rfl)) (fun ps R K=>by unfold ygqy; split <;> (try unfold z47z_L3) <;> rfl) (yHky yday)
theorem yM4y (g:C_z47z):Same (ykBy (@z47z_ g)) (abody (yrQy g) Tryz.f66 yEpy 5 [] [.arr 40] g.N):=by intro args; unfold ykBy; split; exact .inr fun R k=>(by kernel_rfl); exact .inl fun R k=>rfl
theorem yuRy [Fuel]:Ok 66 (ykBy (@z47z _)):=yaay std (.cons yiay (.cons yoGy (.cons yDgy .nil))) ⟨rfl,rfl,by kernel_rfl,rfl,rfl,rfl⟩ (yM4y yday) (cutsL (fun _=>rfl) (.cons yFHy .nil) (by kernel_rfl)) Tryz.func66 (by kernel_rfl) (by kernel_rfl)
abbrev yg3y:Type 1:=Int→Int→{R:Type}→(G_Row→Option R)→Option R
def yrwy (g:Nat) (a1 a2:Int) {R:Type} (k0:G_Row→Option R):Option R :=
 k0 (⟨(w64 (a1 - (w64 (Int.tdiv a2 2)))),(w64 ((w64 (a1 - (w64 (Int.tdiv a2 2)))) + a2))⟩:G_Row)
noncomputable def band_used [Fuel]:yg3y:=@yrwy NN
def ydNy (g:yg3y):Spec A:=fun args=>match args with | [.d (.int .i64 a1),.d (.int .i64 a2)]=>fun k=>g a1 a2 (fun z0=>k (.agg [.d (.int .i64 z0.f_From),.d (.int .i64 z0.f_To)]) [.undef,.undef]) | _=>fun _=>none
noncomputable def yMdy:Code:=(Tryz.f68.body).getD .skip
noncomputable def yCdy (g:Nat):Env A:=mkE [] [(4,[0])] [] [] [] [] [] [] [] []
theorem yApy (g:Nat):Same (ydNy (@yrwy g)) (abody (yCdy g) Tryz.f68 yMdy 1 [] [.asis] g):=by intro args; unfold ydNy; split; exact .inr fun R k=>(by kernel_rfl); exact .inl fun R k=>rfl
theorem yiKy [Fuel]:Ok 68 (ydNy (@band_used _)):=yaay std .nil ⟨rfl,rfl,by kernel_rfl,rfl,rfl,rfl⟩ (yApy NN) (cuts0 (fun _=>rfl) (by kernel_rfl)) Tryz.func68 (by kernel_rfl) (by kernel_rfl)
abbrev yABy:Type 1:=List G_Row→List G_Row→{R:Type}→(List G_Row→Option R)→Option R
def z55z_L7 (g:Nat):Nat→List G_Row→Int→List G_Row→Int→Int→List G_Row→Int→Int→G_Row→List G_Row→{R:Type}→(List G_Row→Int→List G_Row→Int→Int→G_Row→List G_Row→Option R)→Option R
 | 0,_,_,_,_,_,_,_,_,_,_,_,_=>none
 | n + 1,v29,v30,v31,v32,v33,v34,v35,v36,v37,v38,_,e0=>(bif (decide (v36 < v35)) then (get_ v34 v36 fun x40=>(bif (decide (x40.f_To≤v30)) then z55z_L7 g n v29 v30 v31 v32 v33 v34 v35 (w64 (v36 + 1)) v37 v38 e0 else (bif (decide (x40.f_From ≥ v37.f_To)) then z55z_L7 g n v29 v30 v31 v32 v33 v34 v35 (w64 (v36 + 1)) v37 v38 e0 else (bif (decide (x40.f_From > v30)) then (bif (decide ((v38.length + [(⟨v30,x40.f_From⟩:G_Row)].length) * 16≤yagy)) then z55z_L7 g n v29 x40.f_To v31 v32 v33 v34 v35 (w64 (v36 + 1)) v37 (v38 ++ [(⟨v30,x40.f_From⟩:G_Row)]) e0 else none) else z55z_L7 g n v29 x40.f_To v31 v32 v33 v34 v35 (w64 (v36 + 1)) v37 v38 e0)))) else e0 v29 v30 v31 v32 v33 v37 v38)
def z55z_L3 (g:Nat):Nat→List G_Row→List G_Row→Int→Int→List G_Row→{R:Type}→(List G_Row→Option R)→Option R
 | 0,_,_,_,_,_,_,_=>none
 | n + 1,v3,v4,v5,v6,v7,_,e0=>(bif (decide (v6 < v5)) then (get_ v4 v6 fun x28=>(z55z_L7 g g v3 x28.f_From v4 v5 v6 v3 (v3.length:Int) 0 x28 v7 (fun e41 e42 e43 e44 e45 e46 e47=>(bif (decide (e42 < e46.f_To)) then (bif (decide ((e47.length + [(⟨e42,e46.f_To⟩:G_Row)].length) * 16≤yagy)) then z55z_L3 g n e41 e43 e44 (w64 (e45 + 1)) (e47 ++ [(⟨e42,e46.f_To⟩:G_Row)]) e0 else none) else z55z_L3 g n e41 e43 e44 (w64 (e45 + 1)) e47 e0)))) else e0 v7)
def z55z_ (g:Nat) (a1 a2:List G_Row) {R:Type} (k0:List G_Row→Option R):Option R :=
 (z55z_L3 g g a2 a1 (a1.length:Int) 0 [] (fun e48=>k0 e48))
noncomputable def z55z [Fuel]:yABy:=@z55z_ NN
def yply (g:yABy):Spec A:=fun args=>match args with | [.d (.sl 40 a1),.d (.sl 40 a2)]=>fun k=>g a1 a2 (fun z0=>k (.arr 40 z0) [.undef,.undef]) | _=>fun _=>none
def ymry:SSt:=mkSh 63 8 [(1,.sl 40),(5,.own 40 2),(7,.ptr 1 0),(8,.int .i64),(11,.sl 40),(12,.int .i64),(13,.int .i64),(19,.sl 40),(20,.int .i64),(21,.int .i64)] [(1,.box [.int .i64,.int .i64]),(2,.row 40)]
def yfly (g:Nat) (n:Nat):LPT A:=fun ps=>match ps with | [.d (.sl 40 p1),.d (.int .i64 p2),.d (.sl 40 p3),.d (.int .i64 p4),.d (.int .i64 p5),.d (.sl 40 p6),.d (.int .i64 p7),.d (.int .i64 p8),.d (.int .i64 p9),.d (.int .i64 p10),.d (.sl 40 p11)]=>fun K=>z55z_L7 g n p1 p2 p3 p4 p5 p6 p7 p8 ⟨p9,p10⟩ p11 (fun z0 z1 z2 z3 z4 z5 z6=>K (.exit 2) (mkSt 63 8 [(1,.d (.sl 40 z0)),(5,.own 40 2),(7,.ptr 1 0),(8,.d (.int .i64 z1)),(11,.d (.sl 40 z2)),(12,.d (.int .i64 z3)),(13,.d (.int .i64 z4))] [(1,some (.box [.d (.int .i64 z5.f_From),.d (.int .i64 z5.f_To)])),(2,some (.row 40 z6))])) | _=>fun _=>none
def ylSy:SSt:=mkSh 63 8 [(1,.sl 40),(5,.own 40 0),(11,.sl 40),(12,.int .i64),(13,.int .i64)] [(0,.row 40)]
def ygsy (g:Nat) (n:Nat):LPT A:=fun ps=>match ps with | [.d (.sl 40 p1),.d (.sl 40 p2),.d (.int .i64 p3),.d (.int .i64 p4),.d (.sl 40 p5)]=>fun K=>z55z_L3 g n p1 p2 p3 p4 p5 (fun z0=>K (.exit 0) (mkSt 63 8 [(5,.own 40 0)] [(0,some (.row 40 z0))])) | _=>fun _=>none
noncomputable def yuky:Code:=(Tryz.f69.body).getD .skip
noncomputable def ykHy (g:Nat):Env A:=mkE [] [(7,[1]),(10,[3]),(45,[4]),(46,[5]),(59,[6]),(60,[7])] [(7,⟨[1,5,7,8,11,12,13,19,20,21],[(5,40,2)],[1],[],[],[],[]⟩),(3,⟨[1,5,11,12,13],[(5,40,0)],[],[],[],[],[]⟩)] [(7,⟨[1,5,7,8,11,12,13],[],[1,2],[],[],[],[]⟩),(3,⟨[5],[],[0],[],[],[],[]⟩)] [(7,yady ymry (yfly g g)),(3,yady ylSy (ygsy g g))] [] [] [] [] []
theorem yDFy [Fuel]:yahy (ykHy NN).C:=ct_of (P:=Tryz.prog) (T:=T) .nil (by kernel_rfl)
noncomputable def yrIy:Code:=sub [1,1,0,1,0,0,1,1,0,0,1,1,0,1,0,0] yuky
theorem yHTy (g:Nat) (n:Nat):yaiy (ykHy g) g yrIy ymry (yfly g) n:=by intro ps; unfold yfly; split; exact .inr fun R K=>(by kernel_rfl); exact .inl fun R K=>rfl
theorem ytBy [Fuel]:yaby (ykHy NN) NN yrIy:=yacy ymry (yfly NN) (by kernel_rfl) yDFy (cuts0 (fun _=>rfl) (by kernel_rfl)) (fun ps R K=>by unfold yfly; split <;> (try unfold z55z_L7) <;> rfl) (yHTy NN)
noncomputable def ytey:Code:=sub [1,1,0,1,0,0] yuky
theorem yImy (g:Nat) (n:Nat):yaiy (ykHy g) g ytey ylSy (ygsy g) n:=by intro ps; unfold ygsy; split; exact .inr fun R K=>(by kernel_rfl); exact .inl fun R K=>rfl
theorem yExy [Fuel]:yaby (ykHy NN) NN ytey:=yacy ylSy (ygsy NN) (by kernel_rfl) yDFy (cutsL (fun _=>rfl) (.cons ytBy .nil) (by kernel_rfl)) (fun ps R K=>by unfold ygsy; split <;> (try unfold z55z_L3) <;> rfl) (yImy NN)
theorem yMry (g:Nat):Same (yply (@z55z_ g)) (abody (ykHy g) Tryz.f69 yuky 8 [] [.arr 40] g):=by intro args; unfold yply; split; exact .inr fun R k=>(by kernel_rfl); exact .inl fun R k=>rfl
theorem yDBy [Fuel]:Ok 69 (yply (@z55z _)):=yaay std .nil ⟨rfl,rfl,by kernel_rfl,rfl,rfl,rfl⟩ (yMry NN) (cutsL (fun _=>rfl) (.cons ytBy (.cons yExy .nil)) (by kernel_rfl)) Tryz.func69 (by kernel_rfl) (by kernel_rfl)
abbrev yj4y:Type 1:=List G_Segment→List G_Busy→List UInt8→Int→Int→Int→{R:Type}→(List G_Row→Option R)→Option R
structure C_band_free where
 N:Nat
 z47z:ysCy
 kit_Has:yjfy
 band_used:yg3y
 z55z:yABy
 z25z:ytIy
def ybgy (g:C_band_free):Nat→List G_Busy→Int→Int→Int→Int→List G_Row→List G_Row→{R:Type}→(List G_Busy→Int→Int→List G_Row→Option R)→Option R
 | 0,_,_,_,_,_,_,_,_,_=>none
 | n + 1,v8,v9,v10,v11,v12,v13,v14,_,e0=>(bif (decide (v12 < v11)) then (inr v13 v12 (at_ v13 v12 fun x16=>(bif (decide ((w64 (x16.f_To - x16.f_From)) ≥ v9)) then (bif (decide ((v14.length + [(⟨(w64 (x16.f_From + (w64 (Int.tdiv v9 2)))),(w64 ((w64 ((w64 (x16.f_To - v9)) + (w64 (Int.tdiv v9 2)))) + 1))⟩:G_Row)].length) * 16≤yagy)) then ybgy g n v8 v9 v10 v11 (w64 (v12 + 1)) v13 (v14 ++ [(⟨(w64 (x16.f_From + (w64 (Int.tdiv v9 2)))),(w64 ((w64 ((w64 (x16.f_To - v9)) + (w64 (Int.tdiv v9 2)))) + 1))⟩:G_Row)]) e0 else none) else ybgy g n v8 v9 v10 v11 (w64 (v12 + 1)) v13 v14 e0))) else e0 v8 v9 v10 v14)
def ybfy (g:C_band_free):Nat→Int→Int→List G_Busy→Int→Int→List G_Row→List G_Row→{R:Type}→(List G_Row→List G_Row→Option R)→Option R
 | 0,_,_,_,_,_,_,_,_,_=>none
 | n + 1,v21,v22,v23,v24,v25,v26,v27,_,e0=>(bif (decide (v25 < v24)) then (get_ v23 v25 fun x31=>(g.kit_Has x31.f_Time v22 (fun r32=>(bif r32 then (g.band_used x31.f_Hertz x31.f_Width (fun r33=>(bif (decide ((v27.length + [(⟨(w64 ((w64 ((w64 (r33.f_From - v21)) + (w64 (Int.tdiv v21 2)))) + 1)),(w64 (r33.f_To + (w64 (Int.tdiv v21 2))))⟩:G_Row)].length) * 16≤yagy)) then ybfy g n v21 v22 v23 v24 (w64 (v25 + 1)) v26 (v27 ++ [(⟨(w64 ((w64 ((w64 (r33.f_From - v21)) + (w64 (Int.tdiv v21 2)))) + 1)),(w64 (r33.f_To + (w64 (Int.tdiv v21 2))))⟩:G_Row)]) e0 else none))) else ybfy g n v21 v22 v23 v24 (w64 (v25 + 1)) v26 v27 e0)))) else e0 v26 v27)
def ymty (g:C_band_free) (a1:List G_Segment) (a2:List G_Busy) (a3:List UInt8) (a4 a5 a6:Int) {R:Type} (k0:List G_Row→Option R):Option R :=
 (g.z47z a1 a3 a4 a6 (fun r7=>(ybgy g g.N a2 a5 a6 (r7.length:Int) 0 r7 [] (fun e17 e18 e19 e20=>(ybfy g g.N e18 e19 e17 (e17.length:Int) 0 e20 [] (fun e34 e35=>(g.z25z e34 (fun r36=>(g.z25z e35 (fun r37=>(g.z55z r36 r37 (fun r38=>k0 r38))))))))))))
noncomputable def yaqy [Fuel]:C_band_free:=⟨NN,@z47z _,@kit_Has _,@band_used _,@z55z _,@z25z _⟩
noncomputable def band_free [Fuel]:yj4y:=@ymty yaqy
def yfHy (g:yj4y):Spec A:=fun args=>match args with | [.d (.sl 52 a1),.d (.sl 58 a2),.d (.str a3),.d (.int .i64 a4),.d (.int .i64 a5),.d (.int .i64 a6)]=>fun k=>g a1 a2 a3 a4 a5 a6 (fun z0=>k (.arr 40 z0) [.undef,.undef,.undef,.undef,.undef,.undef]) | _=>fun _=>none
def ye7y:SSt:=mkSh 93 13 [(1,.sl 58),(4,.int .i64),(5,.int .i64),(13,.own 40 1),(14,.nsl),(24,.own 40 0),(25,.int .i64),(26,.int .i64)] [(0,.row 40),(1,.row 40)]
def ycsy (g:C_band_free) (n:Nat):LPT A:=fun ps=>match ps with | [.d (.sl 58 p1),.d (.int .i64 p2),.d (.int .i64 p3),.d (.int .i64 p4),.d (.int .i64 p5),.d (.sl 40 p6),.d (.sl 40 p7)]=>fun K=>ybgy g n p1 p2 p3 p4 p5 p6 p7 (fun z0 z1 z2 z3=>K (.exit 0) (mkSt 93 13 [(1,.d (.sl 58 z0)),(4,.d (.int .i64 z1)),(5,.d (.int .i64 z2)),(13,.own 40 1),(14,.d .nsl)] [(1,some (.row 40 z3))])) | _=>fun _=>none
def ye4y:SSt:=mkSh 93 13 [(4,.int .i64),(5,.int .i64),(13,.own 40 1),(14,.own 40 5),(55,.sl 58),(56,.int .i64),(57,.int .i64)] [(1,.row 40),(5,.row 40)]
def ycgy (g:C_band_free) (n:Nat):LPT A:=fun ps=>match ps with | [.d (.int .i64 p1),.d (.int .i64 p2),.d (.sl 58 p3),.d (.int .i64 p4),.d (.int .i64 p5),.d (.sl 40 p6),.d (.sl 40 p7)]=>fun K=>ybfy g n p1 p2 p3 p4 p5 p6 p7 (fun z0 z1=>K (.exit 2) (mkSt 93 13 [(13,.own 40 1),(14,.own 40 5)] [(1,some (.row 40 z0)),(5,some (.row 40 z1))])) | _=>fun _=>none
noncomputable def yuXy:Code:=(Tryz.f35.body).getD .skip
noncomputable def ydey (g:C_band_free):Env A:=mkE [(66,ykBy g.z47z),(67,yfmy g.kit_Has),(68,ydNy g.band_used),(69,yply g.z55z),(70,ykOy g.z25z)] [(16,[2]),(18,[6]),(19,[7]),(24,[0]),(52,[3]),(53,[4]),(85,[8]),(86,[9]),(89,[10]),(91,[11]),(92,[12])] [(3,⟨[1,4,5,13,14,24,25,26],[(13,40,1)],[0],[],[],[],[]⟩),(9,⟨[4,5,13,14,55,56,57],[(14,40,5)],[1],[],[],[],[]⟩)] [(3,⟨[1,4,5,13,14],[],[1],[],[],[],[]⟩),(9,⟨[13,14],[],[1,5],[],[],[],[]⟩)] [(3,yady ye7y (ycsy g g.N)),(9,yady ye4y (ycgy g g.N))] [] [] [] [(70,0)] []
theorem yoby [Fuel]:yahy (ydey yaqy).C:=ct_of (P:=Tryz.prog) (T:=T) (.cons yuRy (.cons yiay (.cons yiKy (.cons yDBy (.cons yoGy .nil))))) (by kernel_rfl)
noncomputable def yjvy:Code:=sub [1,1,0,1,0,0] yuXy
theorem yvmy (g:C_band_free) (n:Nat):yaiy (ydey g) g.N yjvy ye7y (ycsy g) n:=by intro ps; unfold ycsy; split; exact .inr fun R K=>(by kernel_rfl); exact .inl fun R K=>rfl
theorem yrCy [Fuel]:yaby (ydey yaqy) NN yjvy:=yacy ye7y (ycsy yaqy) (by kernel_rfl) yoby (cuts0 (fun _=>rfl) (by kernel_rfl)) (fun ps R K=>by unfold ycsy; split <;> (try unfold ybgy) <;> rfl) (yvmy yaqy)
noncomputable def yjyy:Code:=sub [1,1,1,0,1,0,0] yuXy
theorem yuey (g:C_band_free) (n:Nat):yaiy (ydey g) g.N yjyy ye4y (ycgy g) n:=by intro ps; unfold ycgy; split; exact .inr fun R K=>(by kernel_rfl); exact .inl fun R K=>rfl
theorem ytly [Fuel]:yaby (ydey yaqy) NN yjyy:=yacy ye4y (ycgy yaqy) (by kernel_rfl) yoby (cuts0 (fun _=>rfl) (by kernel_rfl)) (fun ps R K=>by unfold ycgy; split <;> (try unfold ybfy) <;> rfl) (yuey yaqy)
theorem yxMy (g:C_band_free):Same (yfHy (@ymty g)) (abody (ydey g) Tryz.f35 yuXy 13 [] [.arr 40] g.N):=by intro args; unfold yfHy; split; exact .inr fun R k=>(by kernel_rfl); exact .inl fun R k=>rfl
theorem yBay [Fuel]:Ok 35 (yfHy (@band_free _)):=yaay std (.cons yuRy (.cons yiay (.cons yiKy (.cons yDBy (.cons yoGy .nil))))) ⟨rfl,rfl,by kernel_rfl,rfl,rfl,rfl⟩ (yxMy yaqy) (cutsL (fun _=>rfl) (.cons yrCy (.cons ytly .nil)) (by kernel_rfl)) Tryz.func35 (by kernel_rfl) (by kernel_rfl)
abbrev yjBy:Type 1:=List G_Segment→List G_Busy→List UInt8→Int→Int→Int→{R:Type}→(List G_Row→Int→Option R)→Option R
structure C_band_Free where
 N:Nat
 z97z:yzKy
 band_free:yj4y
def ylOy (g:C_band_Free) (a1:List G_Segment) (a2:List G_Busy) (a3:List UInt8) (a4 a5 a6:Int) {R:Type} (k0:List G_Row→Int→Option R):Option R :=
 (g.z97z a1 a2 a3 a4 a5 a6 (fun r7=>(bif (r7 != 0) then k0 [] r7 else (g.band_free a1 a2 a3 a4 a5 a6 (fun r8=>k0 r8 0)))))
noncomputable def yg8y [Fuel]:C_band_Free:=⟨NN,@z97z _,@band_free _⟩
noncomputable def band_Free [Fuel]:yjBy:=@ylOy yg8y
def ygly (g:yjBy):Spec A:=fun args=>match args with | [.d (.sl 52 a1),.d (.sl 58 a2),.d (.str a3),.d (.int .i64 a4),.d (.int .i64 a5),.d (.int .i64 a6)]=>fun k=>g a1 a2 a3 a4 a5 a6 (fun z0 z1=>k (.tup [.arr 40 z0,.d (.int .i64 z1)]) [.undef,.undef,.undef,.undef,.undef,.undef]) | _=>fun _=>none
noncomputable def yQ3y:Code:=(Tryz.f8.body).getD .skip
noncomputable def yChy (g:C_band_Free):Env A:=mkE [(34,ypyy g.z97z),(35,yfHy g.band_free)] [(31,[0])] [] [] [] [] [] [] [] []
theorem yzWy (g:C_band_Free):Same (ygly (@ylOy g)) (abody (yChy g) Tryz.f8 yQ3y 1 [] [.arr 40,.asis] g.N):=by intro args; unfold ygly; split; exact .inr fun R k=>(by kernel_rfl); exact .inl fun R k=>rfl
theorem yxDy [Fuel]:Ok 8 (ygly (@band_Free _)):=yaay std (.cons yQpy (.cons yBay .nil)) ⟨rfl,rfl,by kernel_rfl,rfl,rfl,rfl⟩ (yzWy yg8y) (cuts0 (fun _=>rfl) (by kernel_rfl)) Tryz.func8 (by kernel_rfl) (by kernel_rfl)
abbrev yxzy:Type 1:=List G_Row→{R:Type}→(List G_Row→Option R)→Option R
def z80z_L2 (g:Nat):Nat→Int→Int→List G_Row→G_Row→{R:Type}→(List G_Row→Option R)→Option R
 | 0,_,_,_,_,_,_=>none
 | n + 1,v2,v3,v4,v5,_,e0=>(bif (decide (v3 < v2)) then (inr v4 v3 (at_ v4 v3 fun x7=>z80z_L2 g n v2 (w64 (v3 + 1)) (set_ v4 v3 v5) v5 e0)) else e0 v4)
def z80z_ (g:Nat) (a1:List G_Row) {R:Type} (k0:List G_Row→Option R):Option R :=
 (z80z_L2 g g (a1.length:Int) 0 a1 (⟨0,0⟩:G_Row) (fun e8=>k0 e8))
noncomputable def z80z [Fuel]:yxzy:=@z80z_ NN
def yoZy (g:yxzy):Spec A:=fun args=>match args with | [.arr 40 a1]=>fun k=>g a1 (fun z0=>k (.tup []) [.arr 40 z0]) | _=>fun _=>none
def ylry:SSt:=mkSh 14 2 [(0,.own 40 0),(2,.ptr 1 0),(5,.int .i64),(6,.int .i64)] [(0,.row 40),(1,.box [.int .i64,.int .i64])]
def yfTy (g:Nat) (n:Nat):LPT A:=fun ps=>match ps with | [.d (.int .i64 p1),.d (.int .i64 p2),.d (.sl 40 p3),.d (.int .i64 p4),.d (.int .i64 p5)]=>fun K=>z80z_L2 g n p1 p2 p3 ⟨p4,p5⟩ (fun z0=>K (.exit 0) (mkSt 14 2 [(0,.own 40 0)] [(0,some (.row 40 z0))])) | _=>fun _=>none
noncomputable def yHzy:Code:=(Tryz.f9.body).getD .skip
noncomputable def ys5y (g:Nat):Env A:=mkE [] [(2,[1])] [(2,⟨[0,2,5,6],[],[0,1],[],[],[],[]⟩)] [(2,⟨[0],[],[0],[],[],[],[]⟩)] [(2,yady ylry (yfTy g g))] [] [] [] [] [0]
theorem yQuy [Fuel]:yahy (ys5y NN).C:=ct_of (P:=Tryz.prog) (T:=T) .nil (by kernel_rfl)
noncomputable def ytOy:Code:=sub [1,1,0,0] yHzy
theorem yIoy (g:Nat) (n:Nat):yaiy (ys5y g) g ytOy ylry (yfTy g) n:=by intro ps; unfold yfTy; split; exact .inr fun R K=>(by kernel_rfl); exact .inl fun R K=>rfl
theorem yF7y [Fuel]:yaby (ys5y NN) NN ytOy:=yacy ylry (yfTy NN) (by kernel_rfl) yQuy (cuts0 (fun _=>rfl) (by kernel_rfl)) (fun ps R K=>by unfold yfTy; split <;> (try unfold z80z_L2) <;> rfl) (yIoy NN)
theorem yPey (g:Nat):Same (yoZy (@z80z_ g)) (abody (ys5y g) Tryz.f9 yHzy 2 [0] [] g):=by intro args; unfold yoZy; split; exact .inr fun R k=>(by kernel_rfl); exact .inl fun R k=>rfl
theorem yQsy [Fuel]:Ok 9 (yoZy (@z80z _)):=yaay std .nil ⟨rfl,rfl,by kernel_rfl,rfl,rfl,rfl⟩ (yPey NN) (cutsL (fun _=>rfl) (.cons yF7y .nil) (by kernel_rfl)) Tryz.func9 (by kernel_rfl) (by kernel_rfl)
abbrev yysy:Type 1:=G_Spot→G_Spot→{R:Type}→(Int→Option R)→Option R
structure C_z39z where
 N:Nat
 z29z:yfyy
 z40z:yfgy
 strings_Compare:yaQy
def z39z_ (g:C_z39z) (a1 a2:G_Spot) {R:Type} (k0:Int→Option R):Option R :=
 (g.z29z a1.f_At a2.f_At (fun r3=>(g.z29z a1.f_Hertz a2.f_Hertz (fun r4=>(g.strings_Compare a1.f_Call a2.f_Call (fun r5=>(g.strings_Compare a1.f_By a2.f_By (fun r6=>(g.z40z [r3,r4,r5,r6] (fun r7=>k0 r7))))))))))
noncomputable def yrsy [Fuel]:C_z39z:=⟨NN,@z29z _,@z40z _,@strings_Compare _⟩
noncomputable def z39z [Fuel]:yysy:=@z39z_ yrsy
def yeLy (g:yysy):Spec A:=fun args=>match args with | [.agg [.d (.int .i64 a1),.d (.int .i64 a2),.d (.str a3),.d (.str a4)],.agg [.d (.int .i64 a5),.d (.int .i64 a6),.d (.str a7),.d (.str a8)]]=>fun k=>g ⟨a1,a2,a3,a4⟩ ⟨a5,a6,a7,a8⟩ (fun z0=>k (.d (.int .i64 z0)) [.undef,.undef]) | _=>fun _=>none
noncomputable def yCmy:Code:=(Tryz.f39.body).getD .skip
noncomputable def yRay (g:C_z39z):Env A:=mkE [(52,ybFy g.z29z),(75,ybGy g.z40z),(76,yazy g.strings_Compare)] [(2,[0]),(3,[1]),(25,[2])] [] [] [] [] [] [] [] []
theorem yOVy (g:C_z39z):Same (yeLy (@z39z_ g)) (abody (yRay g) Tryz.f39 yCmy 3 [] [.asis] g.N):=by intro args; unfold yeLy; split; exact .inr fun R k=>(by kernel_rfl); exact .inl fun R k=>rfl
theorem yEcy [Fuel]:Ok 39 (yeLy (@z39z _)):=yaay std (.cons ye2y (.cons yeVy (.cons yaYy .nil))) ⟨rfl,rfl,by kernel_rfl,rfl,rfl,rfl⟩ (yOVy yrsy) (cuts0 (fun _=>rfl) (by kernel_rfl)) Tryz.func39 (by kernel_rfl) (by kernel_rfl)
noncomputable def yMky (g:C_z39z):Env A:=mkED [(52,ybFy g.z29z),(75,ybGy g.z40z),(76,yazy g.strings_Compare)] [(2,[0]),(3,[1]),(25,[2])] [] [] [] [] [] [] [] []
theorem yJHy (g:C_z39z):Same (yeLy (@z39z_ g)) (abody (yMky g) Tryz.f39 yCmy 3 [] [.asis] g.N):=by intro args; unfold yeLy; split; exact .inr fun R k=>(by kernel_rfl); exact .inl fun R k=>rfl
theorem yxiy [Fuel]:OkD 39 (yeLy (@z39z _)):=yaay stdD (.cons yqXy (.cons yqRy (.cons ydry .nil))) ⟨rfl,rfl,by kernel_rfl,rfl,rfl,rfl⟩ (yJHy yrsy) (cuts0 (fun _=>rfl) (by kernel_rfl)) Tryz.func39 (by kernel_rfl) (by kernel_rfl)
abbrev ysuy:Type 1:=List G_Spot→{R:Type}→(Int→Option R)→Option R
structure C_z45z where
 N:Nat
 z39z:yysy
 z48z:ycmy
 z71z:yfOy
 call_Is:ye1y
def z45z_L4 (g:C_z45z):Nat→List G_Spot→List G_Spot→Int→Int→{R:Type}→(Int→Option R)→Option R→Option R
 | 0,_,_,_,_,_,_,_=>none
 | n + 1,v2,v3,v4,v5,_,e0,e1=>(bif (decide (v5 < v4)) then (get_ v3 v5 fun x13=>(g.z71z x13.f_At (fun r14=>(bif (!r14) then e0 1 else (g.z48z x13.f_Hertz 0 30000000000 (fun r15=>(bif r15 then e0 1 else (g.call_Is x13.f_Call (fun r16=>(bif (!r16) then e0 3 else (g.call_Is x13.f_By (fun r17=>(bif (!r17) then e0 3 else (bif (decide (v5 > 0)) then (get_ v2 (w64 (v5 - 1)) fun x18=>(g.z39z x18 x13 (fun r19=>(bif (decide (r19 ≥ 0)) then e0 7 else z45z_L4 g n v2 v3 v4 (w64 (v5 + 1)) e0 e1)))) else z45z_L4 g n v2 v3 v4 (w64 (v5 + 1)) e0 e1)))))))))))))) else e1)
def z45z_ (g:C_z45z) (a1:List G_Spot) {R:Type} (k0:Int→Option R):Option R :=
 (bif (decide ((a1.length:Int) > 2000)) then k0 2 else (z45z_L4 g g.N a1 a1 (a1.length:Int) 0 (fun e20=>k0 e20) (k0 0)))
noncomputable def yc7y [Fuel]:C_z45z:=⟨NN,@z39z _,@z48z _,@z71z _,@call_Is _⟩
noncomputable def z45z [Fuel]:ysuy:=@z45z_ yc7y
def yk4y (g:ysuy):Spec A:=fun args=>match args with | [.d (.sl 45 a1)]=>fun k=>g a1 (fun z0=>k (.d (.int .i64 z0)) [.undef]) | _=>fun _=>none
def ylhy:SSt:=mkSh 50 1 [(0,.sl 45),(8,.sl 45),(9,.int .i64),(10,.int .i64)] []
def yfcy (g:C_z45z) (n:Nat):LPT A:=fun ps=>match ps with | [.d (.sl 45 p1),.d (.sl 45 p2),.d (.int .i64 p3),.d (.int .i64 p4)]=>fun K=>z45z_L4 g n p1 p2 p3 p4 (fun z0=>K .ret (mkSt 50 1 [(2,.d (.int .i64 z0))] [])) (K (.exit 0) (mkSt 50 1 [] [])) | _=>fun _=>none
noncomputable def yDjy:Code:=(Tryz.f36.body).getD .skip
noncomputable def ysXy (g:C_z45z):Env A:=mkE [(39,yeLy g.z39z),(64,ybKy g.z48z),(65,ydgy g.z71z),(71,ycVy g.call_Is)] [(4,[0])] [(4,⟨[0,8,9,10],[],[],[],[],[],[]⟩)] [(4,⟨[2],[],[],[],[],[],[]⟩)] [(4,yady ylhy (yfcy g g.N))] [] [] [] [] []
theorem yL8y [Fuel]:yahy (ysXy yc7y).C:=ct_of (P:=Tryz.prog) (T:=T) (.cons yEcy (.cons ybHy (.cons yeTy (.cons ycny .nil)))) (by kernel_rfl)
noncomputable def ytZy:Code:=sub [1,1,0,1,0,0] yDjy
theorem yIhy (g:C_z45z) (n:Nat):yaiy (ysXy g) g.N ytZy ylhy (yfcy g) n:=by intro ps; unfold yfcy; split; exact .inr fun R K=>(by kernel_rfl); exact .inl fun R K=>rfl
theorem yFxy [Fuel]:yaby (ysXy yc7y) NN ytZy:=yacy ylhy (yfcy yc7y) (by kernel_rfl) yL8y (cuts0 (fun _=>rfl) (by kernel_rfl)) (fun ps R K=>by unfold yfcy; split <;> (try unfold z45z_L4) <;> rfl) (yIhy yc7y)
theorem yPZy (g:C_z45z):Same (yk4y (@z45z_ g)) (abody (ysXy g) Tryz.f36 yDjy 1 [] [.asis] g.N):=by intro args; unfold yk4y; split; exact .inr fun R k=>(by kernel_rfl); exact .inl fun R k=>rfl
theorem yuVy [Fuel]:Ok 36 (yk4y (@z45z _)):=yaay std (.cons yEcy (.cons ybHy (.cons yeTy (.cons ycny .nil)))) ⟨rfl,rfl,by kernel_rfl,rfl,rfl,rfl⟩ (yPZy yc7y) (cutsL (fun _=>rfl) (.cons yFxy .nil) (by kernel_rfl)) Tryz.func36 (by kernel_rfl) (by kernel_rfl)
abbrev yu0y:Type 1:=Int→{R:Type}→(List G_Spot→Option R)→Option R
def z101z [Fuel]:yu0y:=@yhDy G_Spot 48
def yiuy (g:yu0y):Spec A:=fun args=>match args with | [.d .nsl,.d (.int .i64 x1)]=>fun k=>g x1 (fun z=>k (.arr 45 z) [.undef,.undef]) | _=>fun _=>none
theorem yz3y [Fuel] (xs:Int) (R:Type) (k:IV A→List (IV A)→Option R):yiuy (@z101z _) [.d .nsl,.d (.int .i64 xs)] k = yhDy (α:=A 45) 48 xs (fun z=>k (.arr 45 z) [.undef,.undef]):=by kernel_rfl
theorem yxRy [Fuel] (args:List (IV A)) (R:Type) (k:IV A→List (IV A)→Option R) (h:∀ xs:Int,args ≠ [.d .nsl,.d (.int .i64 xs)]):yiuy (@z101z _) args k = none:=by unfold yiuy; split; exact absurd rfl (h _); rfl
theorem yAoy [Fuel]:Ok 72 (yiuy (@z101z _)):=⟨yMYy (yFSy rfl (tyOk Tryz.prog) (e:=45) (size:=4) (bytes:=48) (ty:=45) (by kernel_rfl) (fun w=>yRWy Tryz.grow72 w) (fun n w hn hb hm=>yRJy Tryz.grow72 Tryz.ti45 Tryz.zv45 (by kernel_rfl) (by kernel_rfl) 4 48 (by kernel_rfl) (by kernel_rfl) (by decide) (by kernel_rfl) n w hn hb hm)) yz3y yxRy,yMvy yz3y yxRy,yaOy (fn:=Tryz.f72) Tryz.func72 (by kernel_rfl) (by kernel_rfl)⟩
abbrev yANy:Type 1:=List (List G_Spot)→{R:Type}→(List G_Spot→Option R)→Option R
structure C_z24z where
 N:Nat
 z101z:yu0y
def z24z_L3 (g:C_z24z):Nat→List (List G_Spot)→Int→List (List G_Spot)→Int→Int→{R:Type}→(List (List G_Spot)→Int→Option R)→Option R
 | 0,_,_,_,_,_,_,_=>none
 | n + 1,v2,v3,v4,v5,v6,_,e0=>(bif (decide (v6 < v5)) then (get_ v4 v6 fun x8=>(bif (decide ((w64 (v3 + (x8.length:Int))) < 0)) then none else z24z_L3 g n v2 (w64 (v3 + (x8.length:Int))) v4 v5 (w64 (v6 + 1)) e0)) else e0 v2 v3)
def z24z_L11 (g:C_z24z):Nat→List (List G_Spot)→Int→Int→List G_Spot→{R:Type}→(List G_Spot→Option R)→Option R
 | 0,_,_,_,_,_,_=>none
 | n + 1,v12,v13,v14,v15,_,e0=>(bif (decide (v14 < v13)) then (get_ v12 v14 fun x17=>(bif (decide ((v15.length + x17.length) * 48≤yagy)) then z24z_L11 g n v12 v13 (w64 (v14 + 1)) (v15 ++ x17) e0 else none)) else e0 v15)
def z24z_ (g:C_z24z) (a1:List (List G_Spot)) {R:Type} (k0:List G_Spot→Option R):Option R :=
 (z24z_L3 g g.N a1 0 a1 (a1.length:Int) 0 (fun e9 e10=>(g.z101z e10 (fun r11=>(z24z_L11 g g.N e9 (e9.length:Int) 0 r11 (fun e18=>k0 e18))))))
noncomputable def yehy [Fuel]:C_z24z:=⟨NN,@z101z _⟩
noncomputable def z24z [Fuel]:yANy:=@z24z_ yehy
def yoWy (g:yANy):Spec A:=fun args=>match args with | [.d (.sl 30 a1)]=>fun k=>g a1 (fun z0=>k (.arr 45 z0) [.undef]) | _=>fun _=>none
def ylDy:SSt:=mkSh 36 3 [(0,.sl 30),(3,.int .i64),(9,.sl 30),(10,.int .i64),(11,.int .i64)] []
def yfPy (g:C_z24z) (n:Nat):LPT A:=fun ps=>match ps with | [.d (.sl 30 p1),.d (.int .i64 p2),.d (.sl 30 p3),.d (.int .i64 p4),.d (.int .i64 p5)]=>fun K=>z24z_L3 g n p1 p2 p3 p4 p5 (fun z0 z1=>K (.exit 0) (mkSt 36 3 [(0,.d (.sl 30 z0)),(3,.d (.int .i64 z1))] [])) | _=>fun _=>none
def yjJy:SSt:=mkSh 36 3 [(6,.own 45 1),(25,.sl 30),(26,.int .i64),(27,.int .i64)] [(1,.row 45)]
def yd9y (g:C_z24z) (n:Nat):LPT A:=fun ps=>match ps with | [.d (.sl 30 p1),.d (.int .i64 p2),.d (.int .i64 p3),.d (.sl 45 p4)]=>fun K=>z24z_L11 g n p1 p2 p3 p4 (fun z0=>K (.exit 2) (mkSt 36 3 [(6,.own 45 1)] [(1,some (.row 45 z0))])) | _=>fun _=>none
noncomputable def yudy:Code:=(Tryz.f37.body).getD .skip
noncomputable def ykry (g:C_z24z):Env A:=mkE [(72,yiuy g.z101z)] [(24,[0]),(33,[2])] [(3,⟨[0,3,9,10,11],[],[],[],[],[],[]⟩),(11,⟨[6,25,26,27],[(6,45,1)],[],[],[],[],[]⟩)] [(3,⟨[0,3],[],[],[],[],[],[]⟩),(11,⟨[6],[],[1],[],[],[],[]⟩)] [(3,yady ylDy (yfPy g g.N)),(11,yady yjJy (yd9y g g.N))] [] [] [] [(72,0)] []
theorem yDTy [Fuel]:yahy (ykry yehy).C:=ct_of (P:=Tryz.prog) (T:=T) (.cons yAoy .nil) (by kernel_rfl)
noncomputable def yshy:Code:=sub [1,1,0,1,0,0] yudy
theorem yGly (g:C_z24z) (n:Nat):yaiy (ykry g) g.N yshy ylDy (yfPy g) n:=by intro ps; unfold yfPy; split; exact .inr fun R K=>(by kernel_rfl); exact .inl fun R K=>rfl
theorem yFVy [Fuel]:yaby (ykry yehy) NN yshy:=yacy ylDy (yfPy yehy) (by kernel_rfl) yDTy (cuts0 (fun _=>rfl) (by kernel_rfl)) (fun ps R K=>by unfold yfPy; split <;> (try unfold z24z_L3) <;> rfl) (yGly yehy)
noncomputable def yqhy:Code:=sub [1,1,1,1,0,1,0,0] yudy
theorem yFky (g:C_z24z) (n:Nat):yaiy (ykry g) g.N yqhy yjJy (yd9y g) n:=by intro ps; unfold yd9y; split; exact .inr fun R K=>(by kernel_rfl); exact .inl fun R K=>rfl
theorem yBhy [Fuel]:yaby (ykry yehy) NN yqhy:=yacy yjJy (yd9y yehy) (by kernel_rfl) yDTy (cuts0 (fun _=>rfl) (by kernel_rfl)) (fun ps R K=>by unfold yd9y; split <;> (try unfold z24z_L11) <;> rfl) (yFky yehy)
theorem yM9y (g:C_z24z):Same (yoWy (@z24z_ g)) (abody (ykry g) Tryz.f37 yudy 3 [] [.arr 45] g.N):=by intro args; unfold yoWy; split; exact .inr fun R k=>(by kernel_rfl); exact .inl fun R k=>rfl
theorem yCTy [Fuel]:Ok 37 (yoWy (@z24z _)):=yaay std (.cons yAoy .nil) ⟨rfl,rfl,by kernel_rfl,rfl,rfl,rfl⟩ (yM9y yehy) (cutsL (fun _=>rfl) (.cons yFVy (.cons yBhy .nil)) (by kernel_rfl)) Tryz.func37 (by kernel_rfl) (by kernel_rfl)
end Go.Am
