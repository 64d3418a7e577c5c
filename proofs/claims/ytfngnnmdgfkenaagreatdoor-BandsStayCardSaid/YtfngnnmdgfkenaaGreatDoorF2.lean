/- The functions of the program as Lean functions, each shown to be what the code computes, part 2. No condition: lemmas for the claim. -/
import Derived.Test.YtfngnnmdgfkenaaGreatDoorF0
import Derived.Test.YtfngnnmdgfkenaaGreatDoorFSh
import Derived.Test.YtfngnnmdgfkenaaGreatDoorF1
set_option linter.unusedVariables false
set_option maxRecDepth 100000
namespace Go.Am
open Go Go.Proofs
abbrev yxTy:Type 1:=List G_Segment→{R:Type}→(List G_Segment→Option R)→Option R
structure C_z28z where
 N:Nat
 z5z:T_z5z
def z28z_ (g:C_z28z) (a1:List G_Segment) {R:Type} (k0:List G_Segment→Option R):Option R :=
 (g.z5z a1 (a1.length:Int) (fun r2=>k0 r2))
noncomputable def yzTy [Fuel]:C_z28z:=⟨NN,@z5z _⟩
noncomputable def z28z [Fuel]:yxTy:=@z28z_ yzTy
def ypCy (g:yxTy):Spec A:=fun args=>match args with | [.arr 52 a1,.fn 27 []]=>fun k=>g a1 (fun z0=>k (.tup []) [.arr 52 z0,.fn 27 []]) | _=>fun _=>none
noncomputable def yMBy:Code:=(Tryz.f26.body).getD .skip
noncomputable def yRzy (g:C_z28z):Env A:=mkE [(51,ytHy g.z5z)] [] [] [] [] [] [] [] [(51,0)] [0,1]
theorem yOBy (g:C_z28z):Same (ypCy (@z28z_ g)) (abody (yRzy g) Tryz.f26 yMBy 1 [0] [] g.N):=by intro args; unfold ypCy; split; exact .inr fun R k=>(by kernel_rfl); exact .inl fun R k=>rfl
theorem yDAy [Fuel]:Ok 26 (ypCy (@z28z _)):=yaay std (.cons yQHy .nil) ⟨rfl,rfl,by kernel_rfl,rfl,rfl,rfl⟩ (yOBy yzTy) (cuts0 (fun _=>rfl) (by kernel_rfl)) Tryz.func26 (by kernel_rfl) (by kernel_rfl)
abbrev T_z2z:Type 1:=G_Stream→{R:Type}→(List G_Segment→G_Stream→Option R)→Option R
structure C_z2z where
 N:Nat
 z74z:yhLy
 z79z:ykty
 z82z:yiMy
 z83z:ykRy
 Stream_Odd:ydvy
 z28z:yxTy
def z2z_L10 (g:C_z2z):Nat→List UInt8→Int→Int→Int→G_Stream→List (List UInt8)→List G_Segment→List UInt8→Int→Int→Int→Int→List Int→{R:Type}→(List UInt8→Int→Int→G_Stream→List (List UInt8)→List G_Segment→List UInt8→Int→Int→Int→Int→List Int→Option R)→Option R
 | 0,_,_,_,_,_,_,_,_,_,_,_,_,_,_,_=>none
 | n + 1,v90,v91,v92,v93,v94,v95,v96,v97,v98,v99,v100,v101,v102,_,e0=>(bif (decide (v91≤3)) then (g.z74z v94 2 (fun r105 r106=>(bif r105 then (bif (decide ((v102.length + [v91].length) * 8≤yagy)) then z2z_L10 g n v90 (w64 (v91 + 1)) v92 v93 r106 v95 v96 v97 v98 v99 v100 v101 (v102 ++ [v91]) e0 else none) else z2z_L10 g n v90 (w64 (v91 + 1)) v92 v93 r106 v95 v96 v97 v98 v99 v100 v101 v102 e0))) else e0 v90 v92 v93 v94 v95 v96 v97 v98 v99 v100 v101 v102)
def z2z_L3 (g:C_z2z):Nat→Int→Int→G_Stream→List (List UInt8)→List G_Segment→{R:Type}→(G_Stream→List G_Segment→Option R)→Option R
 | 0,_,_,_,_,_,_,_=>none
 | n + 1,v2,v3,v4,v5,v6,_,e0=>(bif (decide (v3 < v2)) then (inr v5 v3 (at_ v5 v3 fun x79=>(g.z74z v4 5 (fun r80 r81=>(bif r80 then z2z_L3 g n v2 (w64 (v3 + 1)) r81 v5 v6 e0 else (g.z79z r81 [0,100,150,200] (fun r82 r83=>(g.z79z r83 [0,0,50] (fun r84 r85=>(g.z79z r85 [20,50,100] (fun r86 r87=>(g.z79z r87 [50,1000] (fun r88 r89=>(z2z_L10 g g.N x79 1 v2 v3 r89 v5 v6 x79 r82 (w64 (r82 + r86)) r84 (w64 (r84 + r88)) [] (fun e107 e108 e109 e110 e111 e112 e113 e114 e115 e116 e117 e118=>(bif ((e118.length:Int) == 0) then (g.z74z e110 50 (fun r119 r120=>(bif r119 then (g.z82z r120 4 (fun r121 r122=>(bif (r121 == 0) then (g.z83z r122 [e107,[],[65]] (fun r123 r124=>(g.Stream_Odd r124 0 300 (fun r125 r126=>(bif (decide ((e112.length + [(⟨r123,r125,e115,[1],(⟨e116,e117⟩:G_Window)⟩:G_Segment)].length) * 72≤yagy)) then z2z_L3 g n e108 (w64 (e109 + 1)) r126 e111 (e112 ++ [(⟨r123,r125,e115,[1],(⟨e116,e117⟩:G_Window)⟩:G_Segment)]) e0 else none))))) else (bif (r121 == 1) then (g.Stream_Odd r122 1 30000000000 (fun r127 r128=>(bif (decide ((e112.length + [(⟨e113,e114,r127,[1],(⟨e116,e117⟩:G_Window)⟩:G_Segment)].length) * 72≤yagy)) then z2z_L3 g n e108 (w64 (e109 + 1)) r128 e111 (e112 ++ [(⟨e113,e114,r127,[1],(⟨e116,e117⟩:G_Window)⟩:G_Segment)]) e0 else none))) else (bif (r121 == 2) then (g.z79z r122 [0,1,3,4] (fun r129 r130=>(bif (decide (([1].length + [r129].length) * 8≤yagy)) then (bif (decide ((e112.length + [(⟨e113,e114,e115,([1] ++ [r129]),(⟨e116,e117⟩:G_Window)⟩:G_Segment)].length) * 72≤yagy)) then z2z_L3 g n e108 (w64 (e109 + 1)) r130 e111 (e112 ++ [(⟨e113,e114,e115,([1] ++ [r129]),(⟨e116,e117⟩:G_Window)⟩:G_Segment)]) e0 else none) else none))) else (g.Stream_Odd r122 0 100 (fun r131 r132=>(g.Stream_Odd r132 1 345686400000 (fun r133 r134=>(bif (decide ((e112.length + [(⟨e113,e114,e115,[1],(⟨r131,r133⟩:G_Window)⟩:G_Segment)].length) * 72≤yagy)) then z2z_L3 g n e108 (w64 (e109 + 1)) r134 e111 (e112 ++ [(⟨e113,e114,e115,[1],(⟨r131,r133⟩:G_Window)⟩:G_Segment)]) e0 else none)))))))))) else (bif (decide ((e112.length + [(⟨e113,e114,e115,[1],(⟨e116,e117⟩:G_Window)⟩:G_Segment)].length) * 72≤yagy)) then z2z_L3 g n e108 (w64 (e109 + 1)) r120 e111 (e112 ++ [(⟨e113,e114,e115,[1],(⟨e116,e117⟩:G_Window)⟩:G_Segment)]) e0 else none)))) else (g.z74z e110 50 (fun r135 r136=>(bif r135 then (g.z82z r136 4 (fun r137 r138=>(bif (r137 == 0) then (g.z83z r138 [e107,[],[65]] (fun r139 r140=>(g.Stream_Odd r140 0 300 (fun r141 r142=>(bif (decide ((e112.length + [(⟨r139,r141,e115,e118,(⟨e116,e117⟩:G_Window)⟩:G_Segment)].length) * 72≤yagy)) then z2z_L3 g n e108 (w64 (e109 + 1)) r142 e111 (e112 ++ [(⟨r139,r141,e115,e118,(⟨e116,e117⟩:G_Window)⟩:G_Segment)]) e0 else none))))) else (bif (r137 == 1) then (g.Stream_Odd r138 1 30000000000 (fun r143 r144=>(bif (decide ((e112.length + [(⟨e113,e114,r143,e118,(⟨e116,e117⟩:G_Window)⟩:G_Segment)].length) * 72≤yagy)) then z2z_L3 g n e108 (w64 (e109 + 1)) r144 e111 (e112 ++ [(⟨e113,e114,r143,e118,(⟨e116,e117⟩:G_Window)⟩:G_Segment)]) e0 else none))) else (bif (r137 == 2) then (g.z79z r138 [0,1,3,4] (fun r145 r146=>(bif (decide ((e118.length + [r145].length) * 8≤yagy)) then (bif (decide ((e112.length + [(⟨e113,e114,e115,(e118 ++ [r145]),(⟨e116,e117⟩:G_Window)⟩:G_Segment)].length) * 72≤yagy)) then z2z_L3 g n e108 (w64 (e109 + 1)) r146 e111 (e112 ++ [(⟨e113,e114,e115,(e118 ++ [r145]),(⟨e116,e117⟩:G_Window)⟩:G_Segment)]) e0 else none) else none))) else (g.Stream_Odd r138 0 100 (fun r147 r148=>(g.Stream_Odd r148 1 345686400000 (fun r149 r150=>(bif (decide ((e112.length + [(⟨e113,e114,e115,e118,(⟨r147,r149⟩:G_Window)⟩:G_Segment)].length) * 72≤yagy)) then z2z_L3 g n e108 (w64 (e109 + 1)) r150 e111 (e112 ++ [(⟨e113,e114,e115,e118,(⟨r147,r149⟩:G_Window)⟩:G_Segment)]) e0 else none)))))))))) else (bif (decide ((e112.length + [(⟨e113,e114,e115,e118,(⟨e116,e117⟩:G_Window)⟩:G_Segment)].length) * 72≤yagy)) then z2z_L3 g n e108 (w64 (e109 + 1)) r136 e111 (e112 ++ [(⟨e113,e114,e115,e118,(⟨e116,e117⟩:G_Window)⟩:G_Segment)]) e0 else none)))))))))))))))))))) else e0 v4 v6)
def z2z_ (g:C_z2z) (a1:G_Stream) {R:Type} (k0:List G_Segment→G_Stream→Option R):Option R :=
 (z2z_L3 g g.N ([[102,117,108,108],[102,117,108,108],[102,117,108,108],[115,109,97,108,108]].length:Int) 0 a1 [[102,117,108,108],[102,117,108,108],[102,117,108,108],[115,109,97,108,108]] [] (fun e151 e152=>(g.z28z e152 (fun r153=>k0 r153 e151))))
noncomputable def I_z2z [Fuel]:C_z2z:=⟨NN,@z74z _,@z79z _,@z82z _,@z83z _,@Stream_Odd _,@z28z _⟩
noncomputable def z2z [Fuel]:T_z2z:=@z2z_ I_z2z
def ysNy (g:T_z2z):Spec A:=fun args=>match args with | [.box [.d (.sl 3 a1),.d (.int .i64 a2)]]=>fun k=>g ⟨a1,a2⟩ (fun z0 z1=>k (.arr 52 z0) [.box [.d (.sl 3 z1.f_L),.d (.int .i64 z1.f_at)]]) | _=>fun _=>none
def ymVy:SSt:=mkSh 102 18 [(0,.ptr 0 0),(3,.own 52 2),(5,.str),(6,.ptr 5 0),(7,.int .i64),(8,.own 9 1),(9,.int .i64),(10,.int .i64)] [(0,.box [.sl 3,.int .i64]),(1,.row 9),(2,.row 52),(5,.box [.str,.int .i64,.int .i64,.own 3 8,.int .i64,.int .i64]),(8,.row 3)]
def ygiy (g:C_z2z) (n:Nat):LPT A:=fun ps=>match ps with | [.d (.str p1),.d (.int .i64 p2),.d (.int .i64 p3),.d (.int .i64 p4),.d (.sl 3 p5),.d (.int .i64 p6),.d (.sl 9 p7),.d (.sl 52 p8),.d (.str p9),.d (.int .i64 p10),.d (.int .i64 p11),.d (.int .i64 p12),.d (.int .i64 p13),.d (.sl 3 p14)]=>fun K=>z2z_L10 g n p1 p2 p3 p4 ⟨p5,p6⟩ p7 p8 p9 p10 p11 p12 p13 p14 (fun z0 z1 z2 z3 z4 z5 z6 z7 z8 z9 z10 z11=>K (.exit 2) (mkSt 102 18 [(0,.ptr 0 0),(3,.own 52 2),(5,.d (.str z0)),(6,.ptr 5 0),(8,.own 9 1),(9,.d (.int .i64 z1)),(10,.d (.int .i64 z2))] [(0,some (.box [.d (.sl 3 z3.f_L),.d (.int .i64 z3.f_at)])),(1,some (.row 9 z4)),(2,some (.row 52 z5)),(5,some (.box [.d (.str z6),.d (.int .i64 z7),.d (.int .i64 z8),.own 3 8,.d (.int .i64 z9),.d (.int .i64 z10)])),(8,some (.row 3 z11))])) | _=>fun _=>none
def yoqy:SSt:=mkSh 102 18 [(0,.ptr 0 0),(3,.own 52 2),(8,.own 9 1),(9,.int .i64),(10,.int .i64)] [(0,.box [.sl 3,.int .i64]),(1,.row 9),(2,.row 52)]
def yhzy (g:C_z2z) (n:Nat):LPT A:=fun ps=>match ps with | [.d (.int .i64 p1),.d (.int .i64 p2),.d (.sl 3 p3),.d (.int .i64 p4),.d (.sl 9 p5),.d (.sl 52 p6)]=>fun K=>z2z_L3 g n p1 p2 ⟨p3,p4⟩ p5 p6 (fun z0 z1=>K (.exit 0) (mkSt 102 18 [(0,.ptr 0 0),(3,.own 52 2)] [(0,some (.box [.d (.sl 3 z0.f_L),.d (.int .i64 z0.f_at)])),(2,some (.row 52 z1))])) | _=>fun _=>none
noncomputable def yzJy:Code:=(Tryz.f4.body).getD .skip
noncomputable def E_z2z (g:C_z2z):Env A:=mkE [(21,yd3y g.z74z),(22,ygYy g.z79z),(23,yeQy g.z82z),(24,ygEy g.z83z),(25,ycfy g.Stream_Odd),(26,ypCy g.z28z)] [(6,[5]),(8,[1]),(18,[3]),(21,[4]),(28,[6]),(36,[7]),(50,[9]),(51,[10]),(57,[11]),(73,[12]),(89,[15]),(91,[16]),(92,[17]),(96,[13]),(97,[14])] [(10,⟨[0,3,5,6,7,8,9,10],[],[0,1,2,5],[(5,3,3,8)],[],[],[]⟩),(3,⟨[0,3,8,9,10],[(3,52,2)],[0,1],[],[],[],[]⟩)] [(10,⟨[0,3,5,6,8,9,10],[],[0,1,2,5,8],[],[],[],[]⟩),(3,⟨[0,3],[],[0,2],[],[],[],[]⟩)] [(10,yady ymVy (ygiy g g.N)),(3,yady yoqy (yhzy g g.N))] [] [] [] [(26,0)] [0]
theorem yIBy [Fuel]:yahy (E_z2z I_z2z).C:=ct_of (P:=Tryz.prog) (T:=T) (.cons ydky (.cons ygRy (.cons yisy (.cons ygGy (.cons ycby (.cons yDAy .nil)))))) (by kernel_rfl)
noncomputable def ytfy:Code:=sub [1,1,0,1,0,0,1,1,0,0,1,1,1,1,1,0,1,0,0] yzJy
theorem yGVy (g:C_z2z) (n:Nat):yaiy (E_z2z g) g.N ytfy ymVy (ygiy g) n:=by intro ps; unfold ygiy; split; exact .inr fun R K=>(by kernel_rfl); exact .inl fun R K=>rfl
theorem yrMy [Fuel]:yaby (E_z2z I_z2z) NN ytfy:=yacy ymVy (ygiy I_z2z) (by kernel_rfl) yIBy (cuts0 (fun _=>rfl) (by kernel_rfl)) (fun ps R K=>by unfold ygiy; split <;> (try unfold z2z_L10) <;> rfl) (yGVy I_z2z)
noncomputable def yvKy:Code:=sub [1,1,0,1,0,0] yzJy
theorem yJsy (g:C_z2z) (n:Nat):yaiy (E_z2z g) g.N yvKy yoqy (yhzy g) n:=by intro ps; unfold yhzy; split; exact .inr fun R K=>(by kernel_rfl); exact .inl fun R K=>rfl
theorem yHVy [Fuel]:yaby (E_z2z I_z2z) NN yvKy:=yacy yoqy (yhzy I_z2z) (by kernel_rfl) yIBy (cutsL (fun _=>rfl) (.cons yrMy .nil) (by kernel_rfl)) (fun ps R K=>by unfold yhzy; split <;> (try unfold z2z_L3) <;> rfl) (yJsy I_z2z)
theorem yRPy (g:C_z2z):Same (ysNy (@z2z_ g)) (abody (E_z2z g) Tryz.f4 yzJy 18 [0] [.arr 52] g.N):=by intro args; unfold ysNy; split; exact .inr fun R k=>(by kernel_rfl); exact .inl fun R k=>rfl
theorem yQPy [Fuel]:Ok 4 (ysNy (@z2z _)):=yaay std (.cons ydky (.cons ygRy (.cons yisy (.cons ygGy (.cons ycby (.cons yDAy .nil)))))) ⟨rfl,rfl,by kernel_rfl,rfl,rfl,rfl⟩ (yRPy I_z2z) (cutsL (fun _=>rfl) (.cons yrMy (.cons yHVy .nil)) (by kernel_rfl)) Tryz.func4 (by kernel_rfl) (by kernel_rfl)
abbrev yzvy:Type 1:=G_Busy→G_Busy→{R:Type}→(Int→Option R)→Option R
structure C_z14z where
 N:Nat
 z27z:yn5y
def z14z_ (g:C_z14z) (a1 a2:G_Busy) {R:Type} (k0:Int→Option R):Option R :=
 (g.z27z [a1.f_Time.f_From,a1.f_Hertz] [a2.f_Time.f_From,a2.f_Hertz] (fun r3=>k0 r3))
noncomputable def yyWy [Fuel]:C_z14z:=⟨NN,@z27z _⟩
noncomputable def z14z [Fuel]:yzvy:=@z14z_ yyWy
def ypty (g:yzvy):Spec A:=fun args=>match args with | [.agg [.d (.str a1),.d (.int .i64 a2),.d (.int .i64 a3),.d (.int .i64 a4),.d (.int .i64 a5)],.agg [.d (.str a6),.d (.int .i64 a7),.d (.int .i64 a8),.d (.int .i64 a9),.d (.int .i64 a10)]]=>fun k=>g ⟨a1,a2,a3,⟨a4,a5⟩⟩ ⟨a6,a7,a8,⟨a9,a10⟩⟩ (fun z0=>k (.d (.int .i64 z0)) [.undef,.undef]) | _=>fun _=>none
noncomputable def yPQy:Code:=(Tryz.f31.body).getD .skip
noncomputable def yRAy (g:C_z14z):Env A:=mkE [(28,yily g.z27z)] [(2,[0]),(3,[1]),(10,[2]),(16,[3])] [] [] [] [] [] [] [] []
theorem yOyy (g:C_z14z):Same (ypty (@z14z_ g)) (abody (yRAy g) Tryz.f31 yPQy 4 [] [.asis] g.N):=by intro args; unfold ypty; split; exact .inr fun R k=>(by kernel_rfl); exact .inl fun R k=>rfl
theorem yCky [Fuel]:Ok 31 (ypty (@z14z _)):=yaay std (.cons yuBy .nil) ⟨rfl,rfl,by kernel_rfl,rfl,rfl,rfl⟩ (yOyy yyWy) (cuts0 (fun _=>rfl) (by kernel_rfl)) Tryz.func31 (by kernel_rfl) (by kernel_rfl)
abbrev yAky:Type 1:=List G_Busy→Int→Int→{R:Type}→(List G_Busy→Option R)→Option R
structure C_z10z where
 N:Nat
 z14z:yzvy
def z10z_L4 (g:C_z10z):Nat→Int→Int→Int→Int→List G_Busy→{R:Type}→(Int→Int→Int→List G_Busy→Option R)→Option R
 | 0,_,_,_,_,_,_,_=>none
 | n + 1,v31,v32,v33,v34,v35,_,e0=>(bif (decide (v34 > v31)) then (inr v35 v34 (at_ v35 v34 fun x43=>(inr v35 (w64 (v34 - 1)) (at_ v35 (w64 (v34 - 1)) fun x44=>(g.z14z x43 x44 (fun r45=>(bif (decide (r45 < 0)) then (inr v35 (w64 (v34 - 1)) (at_ v35 (w64 (v34 - 1)) fun x46=>(inr v35 v34 (at_ v35 v34 fun x47=>(inr v35 v34 (at_ v35 v34 fun x48=>(inr (set_ v35 v34 x46) (w64 (v34 - 1)) (at_ (set_ v35 v34 x46) (w64 (v34 - 1)) fun x49=>z10z_L4 g n v31 v32 v33 (w64 (v34 - 1)) (set_ (set_ v35 v34 x46) (w64 (v34 - 1)) x47) e0)))))))) else e0 v31 v32 v33 v35))))))) else e0 v31 v32 v33 v35)
def z10z_L1 (g:C_z10z):Nat→Int→Int→Int→List G_Busy→{R:Type}→(List G_Busy→Option R)→Option R
 | 0,_,_,_,_,_,_=>none
 | n + 1,v4,v5,v6,v7,_,e0=>(bif (decide (v6 < v5)) then (z10z_L4 g g.N v4 v5 v6 v6 v7 (fun e50 e51 e52 e53=>z10z_L1 g n e50 e51 (w64 (e52 + 1)) e53 e0)) else e0 v7)
def z10z_ (g:C_z10z) (a1:List G_Busy) (a2 a3:Int) {R:Type} (k0:List G_Busy→Option R):Option R :=
 (z10z_L1 g g.N a2 a3 (w64 (a2 + 1)) a1 (fun e54=>k0 e54))
noncomputable def yd8y [Fuel]:C_z10z:=⟨NN,@z14z _⟩
noncomputable def z10z [Fuel]:yAky:=@z10z_ yd8y
def ypby (g:yAky):Spec A:=fun args=>match args with | [.arr 58 a1,.d (.int .i64 a2),.d (.int .i64 a3),.fn 31 []]=>fun k=>g a1 a2 a3 (fun z0=>k (.tup []) [.arr 58 z0,.undef,.undef,.fn 31 []]) | _=>fun _=>none
def ylZy:SSt:=mkSh 53 1 [(0,.own 58 0),(1,.int .i64),(2,.int .i64),(3,.fn 31 []),(8,.int .i64),(9,.int .i64)] [(0,.row 58)]
def ygby (g:C_z10z) (n:Nat):LPT A:=fun ps=>match ps with | [.d (.int .i64 p1),.d (.int .i64 p2),.d (.int .i64 p3),.d (.int .i64 p4),.d (.sl 58 p5)]=>fun K=>z10z_L4 g n p1 p2 p3 p4 p5 (fun z0 z1 z2 z3=>K (.exit 2) (mkSt 53 1 [(0,.own 58 0),(1,.d (.int .i64 z0)),(2,.d (.int .i64 z1)),(3,.fn 31 []),(8,.d (.int .i64 z2))] [(0,some (.row 58 z3))])) | _=>fun _=>none
def ylvy:SSt:=mkSh 53 1 [(0,.own 58 0),(1,.int .i64),(2,.int .i64),(3,.fn 31 []),(8,.int .i64)] [(0,.row 58)]
def yfFy (g:C_z10z) (n:Nat):LPT A:=fun ps=>match ps with | [.d (.int .i64 p1),.d (.int .i64 p2),.d (.int .i64 p3),.d (.sl 58 p4)]=>fun K=>z10z_L1 g n p1 p2 p3 p4 (fun z0=>K (.exit 0) (mkSt 53 1 [(0,.own 58 0),(3,.fn 31 [])] [(0,some (.row 58 z0))])) | _=>fun _=>none
noncomputable def yvvy:Code:=(Tryz.f97.body).getD .skip
noncomputable def ykzy (g:C_z10z):Env A:=mkE [(31,ypty g.z14z)] [] [(4,⟨[0,1,2,3,8,9],[],[0],[],[],[],[]⟩),(1,⟨[0,1,2,3,8],[],[0],[],[],[],[]⟩)] [(4,⟨[0,1,2,3,8],[],[0],[],[],[],[]⟩),(1,⟨[0,3],[],[0],[],[],[],[]⟩)] [(4,yady ylZy (ygby g g.N)),(1,yady ylvy (yfFy g g.N))] [] [] [] [] [0,3]
theorem yDwy [Fuel]:yahy (ykzy yd8y).C:=ct_of (P:=Tryz.prog) (T:=T) (.cons yCky .nil) (by kernel_rfl)
noncomputable def yr3y:Code:=sub [1,0,0,1,0,0,1,0,0] yvvy
theorem yHZy (g:C_z10z) (n:Nat):yaiy (ykzy g) g.N yr3y ylZy (ygby g) n:=by intro ps; unfold ygby; split; exact .inr fun R K=>(by kernel_rfl); exact .inl fun R K=>rfl
theorem yrxy [Fuel]:yaby (ykzy yd8y) NN yr3y:=yacy ylZy (ygby yd8y) (by kernel_rfl) yDwy (cuts0 (fun _=>rfl) (by kernel_rfl)) (fun ps R K=>by unfold ygby; split <;> (try unfold z10z_L4) <;> rfl) (yHZy yd8y)
noncomputable def ysJy:Code:=sub [1,0,0] yvvy
theorem yIby (g:C_z10z) (n:Nat):yaiy (ykzy g) g.N ysJy ylvy (yfFy g) n:=by intro ps; unfold yfFy; split; exact .inr fun R K=>(by kernel_rfl); exact .inl fun R K=>rfl
theorem yEGy [Fuel]:yaby (ykzy yd8y) NN ysJy:=yacy ylvy (yfFy yd8y) (by kernel_rfl) yDwy (cutsL (fun _=>rfl) (.cons yrxy .nil) (by kernel_rfl)) (fun ps R K=>by unfold yfFy; split <;> (try unfold z10z_L1) <;> rfl) (yIby yd8y)
theorem yMqy (g:C_z10z):Same (ypby (@z10z_ g)) (abody (ykzy g) Tryz.f97 yvvy 1 [0] [] g.N):=by intro args; unfold ypby; split; exact .inr fun R k=>(by kernel_rfl); exact .inl fun R k=>rfl
theorem yDYy [Fuel]:Ok 97 (ypby (@z10z _)):=yaay std (.cons yCky .nil) ⟨rfl,rfl,by kernel_rfl,rfl,rfl,rfl⟩ (yMqy yd8y) (cutsL (fun _=>rfl) (.cons yrxy (.cons yEGy .nil)) (by kernel_rfl)) Tryz.func97 (by kernel_rfl) (by kernel_rfl)
abbrev T_z7z:Type 1:=List G_Busy→Int→{R:Type}→(List G_Busy→Option R)→Option R
structure C_z7z where
 N:Nat
 z10z:yAky
def z7z_L2 (g:C_z7z):Nat→Int→Int→Int→Int→List G_Busy→{R:Type}→(Int→Int→Int→List G_Busy→Option R)→Option R
 | 0,_,_,_,_,_,_,_=>none
 | n + 1,v3,v4,v5,v6,v7,_,e0=>(bif (decide (v6≤v3)) then (g.z10z v7 v5 v6 (fun r9=>z7z_L2 g n v3 v4 v6 (w64 (v6 + v4)) r9 e0)) else e0 v3 v4 v5 v7)
def z7z_L9 (g:C_z7z):Nat→Int→Int→Int→Int→List G_Busy→{R:Type}→(Int→Int→Int→List G_Busy→Option R)→Option R
 | 0,_,_,_,_,_,_,_=>none
 | n + 1,v27,v28,v29,v30,v31,_,e0=>(bif (decide (v30≤v27)) then none else e0 v27 v28 v29 v31)
def z7z_L7 (g:C_z7z):Nat→Int→Int→List G_Busy→{R:Type}→(List G_Busy→Option R)→Option R
 | 0,_,_,_,_,_=>none
 | n + 1,v15,v16,v17,_,e0=>(bif (decide (v16 < v15)) then (z7z_L9 g g.N v15 v16 0 (w64 (2 * v16)) v17 (fun e32 e33 e34 e35=>(bif (decide ((w64 (e34 + e33)) < e32)) then none else z7z_L7 g n e32 (w64 (e33 * 2)) e35 e0))) else e0 v17)
def z7z_ (g:C_z7z) (a1:List G_Busy) (a2:Int) {R:Type} (k0:List G_Busy→Option R):Option R :=
 (z7z_L2 g g.N a2 20 0 20 a1 (fun e10 e11 e12 e13=>(g.z10z e13 e12 e10 (fun r14=>(z7z_L7 g g.N e10 e11 r14 (fun e36=>k0 e36))))))
noncomputable def I_z7z [Fuel]:C_z7z:=⟨NN,@z10z _⟩
noncomputable def z7z [Fuel]:T_z7z:=@z7z_ I_z7z
def ysoy (g:T_z7z):Spec A:=fun args=>match args with | [.arr 58 a1,.d (.int .i64 a2),.fn 31 []]=>fun k=>g a1 a2 (fun z0=>k (.tup []) [.arr 58 z0,.undef,.fn 31 []]) | _=>fun _=>none
def yooy:SSt:=mkSh 63 1 [(0,.own 58 0),(1,.int .i64),(2,.fn 31 []),(6,.int .i64),(7,.int .i64),(8,.int .i64)] [(0,.row 58)]
def yhUy (g:C_z7z) (n:Nat):LPT A:=fun ps=>match ps with | [.d (.int .i64 p1),.d (.int .i64 p2),.d (.int .i64 p3),.d (.int .i64 p4),.d (.sl 58 p5)]=>fun K=>z7z_L2 g n p1 p2 p3 p4 p5 (fun z0 z1 z2 z3=>K (.exit 0) (mkSt 63 1 [(0,.own 58 0),(1,.d (.int .i64 z0)),(2,.fn 31 []),(6,.d (.int .i64 z1)),(7,.d (.int .i64 z2))] [(0,some (.row 58 z3))])) | _=>fun _=>none
def yoly:SSt:=mkSh 63 1 [(0,.own 58 0),(1,.int .i64),(2,.fn 31 []),(6,.int .i64),(7,.int .i64),(8,.int .i64)] [(0,.row 58)]
def yhty (g:C_z7z) (n:Nat):LPT A:=fun ps=>match ps with | [.d (.int .i64 p1),.d (.int .i64 p2),.d (.int .i64 p3),.d (.int .i64 p4),.d (.sl 58 p5)]=>fun K=>z7z_L9 g n p1 p2 p3 p4 p5 (fun z0 z1 z2 z3=>K (.exit 4) (mkSt 63 1 [(0,.own 58 0),(1,.d (.int .i64 z0)),(2,.fn 31 []),(6,.d (.int .i64 z1)),(7,.d (.int .i64 z2))] [(0,some (.row 58 z3))])) | _=>fun _=>none
def yohy:SSt:=mkSh 63 1 [(0,.own 58 0),(1,.int .i64),(2,.fn 31 []),(6,.int .i64)] [(0,.row 58)]
def yhFy (g:C_z7z) (n:Nat):LPT A:=fun ps=>match ps with | [.d (.int .i64 p1),.d (.int .i64 p2),.d (.sl 58 p3)]=>fun K=>z7z_L7 g n p1 p2 p3 (fun z0=>K (.exit 2) (mkSt 63 1 [(0,.own 58 0),(2,.fn 31 [])] [(0,some (.row 58 z0))])) | _=>fun _=>none
noncomputable def yo5y:Code:=(Tryz.f53.body).getD .skip
noncomputable def E_z7z (g:C_z7z):Env A:=mkE [(97,ypby g.z10z)] [] [(2,⟨[0,1,2,6,7,8],[],[0],[],[],[],[]⟩),(9,⟨[0,1,2,6,7,8],[],[0],[],[],[],[]⟩),(7,⟨[0,1,2,6],[],[0],[],[],[],[]⟩)] [(2,⟨[0,1,2,6,7],[],[0],[],[],[],[]⟩),(9,⟨[0,1,2,6,7],[],[0],[],[],[],[]⟩),(7,⟨[0,2],[],[0],[],[],[],[]⟩)] [(2,yady yooy (yhUy g g.N)),(9,yady yoly (yhty g g.N)),(7,yady yohy (yhFy g g.N))] [] [] [] [(97,0)] [0,2]
theorem yxNy [Fuel]:yahy (E_z7z I_z7z).C:=ct_of (P:=Tryz.prog) (T:=T) (.cons yDYy .nil) (by kernel_rfl)
noncomputable def yvYy:Code:=sub [1,1,0,0,0] yo5y
theorem yLcy (g:C_z7z) (n:Nat):yaiy (E_z7z g) g.N yvYy yooy (yhUy g) n:=by intro ps; unfold yhUy; split; exact .inr fun R K=>(by kernel_rfl); exact .inl fun R K=>rfl
theorem yHfy [Fuel]:yaby (E_z7z I_z7z) NN yvYy:=yacy yooy (yhUy I_z7z) (by kernel_rfl) yxNy (cuts0 (fun _=>rfl) (by kernel_rfl)) (fun ps R K=>by unfold yhUy; split <;> (try unfold z7z_L2) <;> rfl) (yLcy I_z7z)
noncomputable def ywdy:Code:=sub [1,1,1,1,0,0,1,0,1,0,0,0] yo5y
theorem yKQy (g:C_z7z) (n:Nat):yaiy (E_z7z g) g.N ywdy yoly (yhty g) n:=by intro ps; unfold yhty; split; exact .inr fun R K=>(by kernel_rfl); exact .inl fun R K=>rfl
theorem yvCy [Fuel]:yaby (E_z7z I_z7z) NN ywdy:=yacy yoly (yhty I_z7z) (by kernel_rfl) yxNy (cuts0 (fun _=>rfl) (by kernel_rfl)) (fun ps R K=>by unfold yhty; split <;> (try unfold z7z_L9) <;> rfl) (yKQy I_z7z)
noncomputable def ywfy:Code:=sub [1,1,1,1,0,0] yo5y
theorem yKzy (g:C_z7z) (n:Nat):yaiy (E_z7z g) g.N ywfy yohy (yhFy g) n:=by intro ps; unfold yhFy; split; exact .inr fun R K=>(by kernel_rfl); exact .inl fun R K=>rfl
theorem yG8y [Fuel]:yaby (E_z7z I_z7z) NN ywfy:=yacy yohy (yhFy I_z7z) (by kernel_rfl) yxNy (cutsL (fun _=>rfl) (.cons yvCy .nil) (by kernel_rfl)) (fun ps R K=>by unfold yhFy; split <;> (try unfold z7z_L7) <;> rfl) (yKzy I_z7z)
theorem yQzy (g:C_z7z):Same (ysoy (@z7z_ g)) (abody (E_z7z g) Tryz.f53 yo5y 1 [0] [] g.N):=by intro args; unfold ysoy; split; exact .inr fun R k=>(by kernel_rfl); exact .inl fun R k=>rfl
theorem yRHy [Fuel]:Ok 53 (ysoy (@z7z _)):=yaay std (.cons yDYy .nil) ⟨rfl,rfl,by kernel_rfl,rfl,rfl,rfl⟩ (yQzy I_z7z) (cutsL (fun _=>rfl) (.cons yHfy (.cons yvCy (.cons yG8y .nil))) (by kernel_rfl)) Tryz.func53 (by kernel_rfl) (by kernel_rfl)
abbrev yyly:Type 1:=List G_Busy→{R:Type}→(List G_Busy→Option R)→Option R
structure C_z35z where
 N:Nat
 z7z:T_z7z
def z35z_ (g:C_z35z) (a1:List G_Busy) {R:Type} (k0:List G_Busy→Option R):Option R :=
 (g.z7z a1 (a1.length:Int) (fun r2=>k0 r2))
noncomputable def yyey [Fuel]:C_z35z:=⟨NN,@z7z _⟩
noncomputable def z35z [Fuel]:yyly:=@z35z_ yyey
def ypAy (g:yyly):Spec A:=fun args=>match args with | [.arr 58 a1,.fn 31 []]=>fun k=>g a1 (fun z0=>k (.tup []) [.arr 58 z0,.fn 31 []]) | _=>fun _=>none
noncomputable def yM8y:Code:=(Tryz.f30.body).getD .skip
noncomputable def yQCy (g:C_z35z):Env A:=mkE [(53,ysoy g.z7z)] [] [] [] [] [] [] [] [(53,0)] [0,1]
theorem yOMy (g:C_z35z):Same (ypAy (@z35z_ g)) (abody (yQCy g) Tryz.f30 yM8y 1 [0] [] g.N):=by intro args; unfold ypAy; split; exact .inr fun R k=>(by kernel_rfl); exact .inl fun R k=>rfl
theorem yDyy [Fuel]:Ok 30 (ypAy (@z35z _)):=yaay std (.cons yRHy .nil) ⟨rfl,rfl,by kernel_rfl,rfl,rfl,rfl⟩ (yOMy yyey) (cuts0 (fun _=>rfl) (by kernel_rfl)) Tryz.func30 (by kernel_rfl) (by kernel_rfl)
end Go.Am
