/- The functions of the program as Lean functions, each shown to be what the code computes, part 2. No condition: lemmas for the claim. -/
import Derived.Test.YtmhbhdhddlbdlaaGreatDoorF0
import Derived.Test.YtmhbhdhddlbdlaaGreatDoorFSh
import Derived.Test.YtmhbhdhddlbdlaaGreatDoorF1
set_option linter.unusedVariables false
set_option maxRecDepth 100000
namespace Go.Am
open Go Go.Proofs
abbrev T_z0z:Type 1:=List G_Spot→Int→{R:Type}→(List G_Spot→Option R)→Option R
structure C_z0z where
 N:Nat
 z1z:T_z1z
def z0z_L2 (g:C_z0z):Nat→Int→Int→Int→Int→List G_Spot→{R:Type}→(Int→Int→Int→List G_Spot→Option R)→Option R
 | 0,_,_,_,_,_,_,_=>none
 | n + 1,v3,v4,v5,v6,v7,_,e0=>(bif (decide (v6≤v3)) then (g.z1z v7 v5 v6 (fun r9=>z0z_L2 g n v3 v4 v6 (w64 (v6 + v4)) r9 e0)) else e0 v3 v4 v5 v7)
def z0z_L9 (g:C_z0z):Nat→Int→Int→Int→Int→List G_Spot→{R:Type}→(Int→Int→Int→List G_Spot→Option R)→Option R
 | 0,_,_,_,_,_,_,_=>none
 | n + 1,v27,v28,v29,v30,v31,_,e0=>(bif (decide (v30≤v27)) then none else e0 v27 v28 v29 v31)
def z0z_L7 (g:C_z0z):Nat→Int→Int→List G_Spot→{R:Type}→(List G_Spot→Option R)→Option R
 | 0,_,_,_,_,_=>none
 | n + 1,v15,v16,v17,_,e0=>(bif (decide (v16 < v15)) then (z0z_L9 g g.N v15 v16 0 (w64 (2 * v16)) v17 (fun e32 e33 e34 e35=>(bif (decide ((w64 (e34 + e33)) < e32)) then none else z0z_L7 g n e32 (w64 (e33 * 2)) e35 e0))) else e0 v17)
def z0z_ (g:C_z0z) (a1:List G_Spot) (a2:Int) {R:Type} (k0:List G_Spot→Option R):Option R :=
 (z0z_L2 g g.N a2 20 0 20 a1 (fun e10 e11 e12 e13=>(g.z1z e13 e12 e10 (fun r14=>(z0z_L7 g g.N e10 e11 r14 (fun e36=>k0 e36))))))
noncomputable def I_z0z [Fuel]:C_z0z:=⟨NN,@z1z _⟩
noncomputable def z0z [Fuel]:T_z0z:=@z0z_ I_z0z
def ypiy (g:T_z0z):Spec A:=fun args=>match args with | [.arr 32 a1,.d (.int .i64 a2),.fn 57 []]=>fun k=>g a1 a2 (fun z0=>k (.tup []) [.arr 32 z0,.undef,.fn 57 []]) | _=>fun _=>none
def ylJy:SSt:=mkSh 63 1 [(0,.own 32 0),(1,.int .i64),(2,.fn 57 []),(6,.int .i64),(7,.int .i64),(8,.int .i64)] [(0,.row 32)]
def ygRy (g:C_z0z) (n:Nat):LPT A:=fun ps=>match ps with | [.d (.int .i64 p1),.d (.int .i64 p2),.d (.int .i64 p3),.d (.int .i64 p4),.d (.sl 32 p5)]=>fun K=>z0z_L2 g n p1 p2 p3 p4 p5 (fun z0 z1 z2 z3=>K (.exit 0) (mkSt 63 1 [(0,.own 32 0),(1,.d (.int .i64 z0)),(2,.fn 57 []),(6,.d (.int .i64 z1)),(7,.d (.int .i64 z2))] [(0,some (.row 32 z3))])) | _=>fun _=>none
def ylIy:SSt:=mkSh 63 1 [(0,.own 32 0),(1,.int .i64),(2,.fn 57 []),(6,.int .i64),(7,.int .i64),(8,.int .i64)] [(0,.row 32)]
def ygOy (g:C_z0z) (n:Nat):LPT A:=fun ps=>match ps with | [.d (.int .i64 p1),.d (.int .i64 p2),.d (.int .i64 p3),.d (.int .i64 p4),.d (.sl 32 p5)]=>fun K=>z0z_L9 g n p1 p2 p3 p4 p5 (fun z0 z1 z2 z3=>K (.exit 4) (mkSt 63 1 [(0,.own 32 0),(1,.d (.int .i64 z0)),(2,.fn 57 []),(6,.d (.int .i64 z1)),(7,.d (.int .i64 z2))] [(0,some (.row 32 z3))])) | _=>fun _=>none
def ymey:SSt:=mkSh 63 1 [(0,.own 32 0),(1,.int .i64),(2,.fn 57 []),(6,.int .i64)] [(0,.row 32)]
def ygQy (g:C_z0z) (n:Nat):LPT A:=fun ps=>match ps with | [.d (.int .i64 p1),.d (.int .i64 p2),.d (.sl 32 p3)]=>fun K=>z0z_L7 g n p1 p2 p3 (fun z0=>K (.exit 2) (mkSt 63 1 [(0,.own 32 0),(2,.fn 57 [])] [(0,some (.row 32 z0))])) | _=>fun _=>none
noncomputable def ykUy:Code:=(Tryz.f106.body).getD .skip
noncomputable def E_z0z (g:C_z0z):Env A:=mkE [(111,ypty g.z1z)] [] [(2,⟨[0,1,2,6,7,8],[],[0],[],[],[],[]⟩),(9,⟨[0,1,2,6,7,8],[],[0],[],[],[],[]⟩),(7,⟨[0,1,2,6],[],[0],[],[],[],[]⟩)] [(2,⟨[0,1,2,6,7],[],[0],[],[],[],[]⟩),(9,⟨[0,1,2,6,7],[],[0],[],[],[],[]⟩),(7,⟨[0,2],[],[0],[],[],[],[]⟩)] [(2,yafy ylJy (ygRy g g.N)),(9,yafy ylIy (ygOy g g.N)),(7,yafy ymey (ygQy g g.N))] [] [] [] [(111,0)] [0,2]
theorem ywPy [Fuel]:yagy (E_z0z I_z0z).C:=ct_of (P:=Tryz.prog) (T:=T) (.cons yCcy .nil) (by kernel_rfl)
noncomputable def ysvy:Code:=sub [1,1,0,0,0] ykUy
theorem yFxy (g:C_z0z) (n:Nat):yaly (E_z0z g) g.N ysvy ylJy (ygRy g) n:=by intro ps; unfold ygRy; split; exact .inr fun R K=>(by kernel_rfl); exact .inl fun R K=>rfl
theorem yChy [Fuel]:yaey (E_z0z I_z0z) NN ysvy:=yahy ylJy (ygRy I_z0z) (by kernel_rfl) ywPy (cuts0 (fun _=>rfl) (by kernel_rfl)) (fun ps R K=>by unfold ygRy; split <;> (try unfold z0z_L2) <;> rfl) (yFxy I_z0z)
noncomputable def ysmy:Code:=sub [1,1,1,1,0,0,1,0,1,0,0,0] ykUy
theorem yEfy (g:C_z0z) (n:Nat):yaly (E_z0z g) g.N ysmy ylIy (ygOy g) n:=by intro ps; unfold ygOy; split; exact .inr fun R K=>(by kernel_rfl); exact .inl fun R K=>rfl
theorem ysGy [Fuel]:yaey (E_z0z I_z0z) NN ysmy:=yahy ylIy (ygOy I_z0z) (by kernel_rfl) ywPy (cuts0 (fun _=>rfl) (by kernel_rfl)) (fun ps R K=>by unfold ygOy; split <;> (try unfold z0z_L9) <;> rfl) (yEfy I_z0z)
noncomputable def yspy:Code:=sub [1,1,1,1,0,0] ykUy
theorem yFmy (g:C_z0z) (n:Nat):yaly (E_z0z g) g.N yspy ymey (ygQy g) n:=by intro ps; unfold ygQy; split; exact .inr fun R K=>(by kernel_rfl); exact .inl fun R K=>rfl
theorem yDMy [Fuel]:yaey (E_z0z I_z0z) NN yspy:=yahy ymey (ygQy I_z0z) (by kernel_rfl) ywPy (cutsL (fun _=>rfl) (.cons ysGy .nil) (by kernel_rfl)) (fun ps R K=>by unfold ygQy; split <;> (try unfold z0z_L7) <;> rfl) (yFmy I_z0z)
theorem yLiy (g:C_z0z):Same (ypiy (@z0z_ g)) (abody (E_z0z g) Tryz.f106 ykUy 1 [0] [] g.N):=by intro args; unfold ypiy; split; exact .inr fun R k=>(by kernel_rfl); exact .inl fun R k=>rfl
theorem yK9y [Fuel]:Ok 106 (ypiy (@z0z _)):=yaay std (.cons yCcy .nil) ⟨rfl,rfl,by kernel_rfl,rfl,rfl,rfl⟩ (yLiy I_z0z) (cutsL (fun _=>rfl) (.cons yChy (.cons ysGy (.cons yDMy .nil))) (by kernel_rfl)) Tryz.func106 (by kernel_rfl) (by kernel_rfl)
abbrev yuEy:Type 1:=List G_Spot→{R:Type}→(List G_Spot→Option R)→Option R
structure C_z21z where
 N:Nat
 z0z:T_z0z
def z21z_ (g:C_z21z) (a1:List G_Spot) {R:Type} (k0:List G_Spot→Option R):Option R :=
 (g.z0z a1 (a1.length:Int) (fun r2=>k0 r2))
noncomputable def ywzy [Fuel]:C_z21z:=⟨NN,@z0z _⟩
noncomputable def z21z [Fuel]:yuEy:=@z21z_ ywzy
def ymWy (g:yuEy):Spec A:=fun args=>match args with | [.arr 32 a1,.fn 57 []]=>fun k=>g a1 (fun z0=>k (.tup []) [.arr 32 z0,.fn 57 []]) | _=>fun _=>none
noncomputable def yIuy:Code:=(Tryz.f56.body).getD .skip
noncomputable def yKDy (g:C_z21z):Env A:=mkE [(106,ypiy g.z0z)] [] [] [] [] [] [] [] [(106,0)] [0,1]
theorem yGHy (g:C_z21z):Same (ymWy (@z21z_ g)) (abody (yKDy g) Tryz.f56 yIuy 1 [0] [] g.N):=by intro args; unfold ymWy; split; exact .inr fun R k=>(by kernel_rfl); exact .inl fun R k=>rfl
theorem yywy [Fuel]:Ok 56 (ymWy (@z21z _)):=yaay std (.cons yK9y .nil) ⟨rfl,rfl,by kernel_rfl,rfl,rfl,rfl⟩ (yGHy ywzy) (cuts0 (fun _=>rfl) (by kernel_rfl)) Tryz.func56 (by kernel_rfl) (by kernel_rfl)
abbrev T_z9z:Type 1:=List G_Spot→{R:Type}→(List G_Spot→Option R)→Option R
def z9z_L9 (g:Nat):Nat→Int→Int→Int→Int→List G_Spot→{R:Type}→(Int→List G_Spot→Option R)→Option R
 | 0,_,_,_,_,_,_,_=>none
 | n + 1,v23,v24,v25,v26,v27,_,e0=>(bif (decide (v26 < ((v25 - v24).toNat:Int))) then (bif (decide (0≤v26) && (decide (v26 < v25 - v24) && decide (v24 + v26 < (v27.length:Int)))) then (at_ v27 (v24 + v26) fun x32=>(bif (decide (0≤(w64 (v26 - 1))) && (decide ((w64 (v26 - 1)) < v25 - v24) && decide (v24 + (w64 (v26 - 1)) < (v27.length:Int)))) then (at_ v27 (v24 + (w64 (v26 - 1))) fun x33=>(bif (!(yaZy x32 x33)) then (bif (decide (0≤v26) && (decide (v26 < v25 - v24) && decide (v24 + v26 < (v27.length:Int)))) then (at_ v27 (v24 + v26) fun x34=>(inr v27 v23 (at_ v27 v23 fun x35=>z9z_L9 g n (w64 (v23 + 1)) v24 v25 (w64 (v26 + 1)) (set_ v27 v23 x34) e0))) else none) else z9z_L9 g n v23 v24 v25 (w64 (v26 + 1)) v27 e0)) else none)) else none) else e0 v23 v27)
def z9z_L4 (g:Nat):Nat→Int→List G_Spot→{R:Type}→(List G_Spot→Option R)→(List G_Spot→Option R)→Option R
 | 0,_,_,_,_,_=>none
 | n + 1,v2,v3,_,e0,e1=>(bif (decide (v2 < (v3.length:Int))) then (inr v3 v2 (at_ v3 v2 fun x21=>(inr v3 (w64 (v2 - 1)) (at_ v3 (w64 (v2 - 1)) fun x22=>(bif (yaZy x21 x22) then (bif (decide (0 < v3.length) && (decide (0≤v2) && decide (v2≤(v3.length:Int)))) then (z9z_L9 g g v2 v2 (v3.length:Int) 1 v3 (fun e36 e37=>(bif (decide (0 < e37.length) && (decide (0≤e36) && decide (e36≤(e37.length:Int)))) then (bif (decide (0≤e36) && (decide (e36≤(e37.length:Int)) && decide (((e37.length:Int)).toNat≤e37.length))) then (bif (decide (0≤e36) && decide (e36≤((e37.take (e36).toNat ++ (List.replicate ((e37.length:Int) - e36).toNat (⟨0,0,[],[]⟩:G_Spot) ++ e37.drop ((e37.length:Int)).toNat)).length:Int))) then e0 ((e37.take (e36).toNat ++ (List.replicate ((e37.length:Int) - e36).toNat (⟨0,0,[],[]⟩:G_Spot) ++ e37.drop ((e37.length:Int)).toNat)).take (e36:Int).toNat) else none) else none) else none))) else none) else z9z_L4 g n (w64 (v2 + 1)) v3 e0 e1))))) else e1 v3)
def z9z_ (g:Nat) (a1:List G_Spot) {R:Type} (k0:List G_Spot→Option R):Option R :=
 (bif (decide ((a1.length:Int) < 2)) then k0 a1 else (z9z_L4 g g 1 a1 (fun e38=>k0 e38) (fun e39=>k0 e39)))
noncomputable def z9z [Fuel]:T_z9z:=@z9z_ NN
def ylKy (g:T_z9z):Spec A:=fun args=>match args with | [.arr 32 a1]=>fun k=>g a1 (fun z0=>k (.arr 32 z0) [.undef]) | _=>fun _=>none
def ylHy:SSt:=mkSh 61 6 [(0,.own 32 0),(3,.int .i64),(4,.vw 32 0),(5,.int .i64)] [(0,.row 32)]
def ygTy (g:Nat) (n:Nat):LPT A:=fun ps=>match ps with | [.d (.int .i64 p1),.z p2,.z p3,.d (.int .i64 p4),.d (.sl 32 p5)]=>fun K=>z9z_L9 g n p1 p2 p3 p4 p5 (fun z0 z1=>K (.exit 2) (mkSt 61 6 [(0,.own 32 0),(3,.d (.int .i64 z0))] [(0,some (.row 32 z1))])) | _=>fun _=>none
def ylMy:SSt:=mkSh 61 6 [(0,.own 32 0),(3,.int .i64)] [(0,.row 32)]
def ygCy (g:Nat) (n:Nat):LPT A:=fun ps=>match ps with | [.d (.int .i64 p1),.d (.sl 32 p2)]=>fun K=>z9z_L4 g n p1 p2 (fun z0=>K .ret (mkSt 61 6 [(0,.own 32 0),(2,.own 32 5)] [(5,some (.row 32 z0))])) (fun z0=>K (.exit 0) (mkSt 61 6 [(0,.own 32 0)] [(0,some (.row 32 z0))])) | _=>fun _=>none
noncomputable def yr8y:Code:=(Tryz.f28.body).getD .skip
noncomputable def E_z9z (g:Nat):Env A:=mkE [] [(28,[1,2]),(56,[3,4]),(59,[5])] [(9,⟨[0,3,4,5],[],[0],[],[],[],[]⟩),(4,⟨[0,3],[],[0],[],[],[],[]⟩)] [(9,⟨[0,3],[],[0],[],[],[],[]⟩),(4,⟨[0,2],[],[0,5],[],[],[],[]⟩)] [(9,yafy ylHy (ygTy g g)),(4,yafy ylMy (ygCy g g))] [] [] [] [] []
theorem yCRy [Fuel]:yagy (E_z9z NN).C:=ct_of (P:=Tryz.prog) (T:=T) .nil (by kernel_rfl)
noncomputable def ysNy:Code:=sub [1,1,0,1,0,0,1,0,0,1,0,1,0,1,0,0] yr8y
theorem yEzy (g:Nat) (n:Nat):yaly (E_z9z g) g ysNy ylHy (ygTy g) n:=by intro ps; unfold ygTy; split; exact .inr fun R K=>(by kernel_rfl); exact .inl fun R K=>rfl
theorem ysSy [Fuel]:yaey (E_z9z NN) NN ysNy:=yahy ylHy (ygTy NN) (by kernel_rfl) yCRy (cuts0 (fun _=>rfl) (by kernel_rfl)) (fun ps R K=>by unfold ygTy; split <;> (try unfold z9z_L9) <;> rfl) (yEzy NN)
noncomputable def ysyy:Code:=sub [1,1,0,1,0,0] yr8y
theorem yFwy (g:Nat) (n:Nat):yaly (E_z9z g) g ysyy ylMy (ygCy g) n:=by intro ps; unfold ygCy; split; exact .inr fun R K=>(by kernel_rfl); exact .inl fun R K=>rfl
theorem yCPy [Fuel]:yaey (E_z9z NN) NN ysyy:=yahy ylMy (ygCy NN) (by kernel_rfl) yCRy (cutsL (fun _=>rfl) (.cons ysSy .nil) (by kernel_rfl)) (fun ps R K=>by unfold ygCy; split <;> (try unfold z9z_L4) <;> rfl) (yFwy NN)
theorem yKby (g:Nat):Same (ylKy (@z9z_ g)) (abody (E_z9z g) Tryz.f28 yr8y 6 [0] [.arr 32] g):=by intro args; unfold ylKy; split; exact .inr fun R k=>(by kernel_rfl); exact .inl fun R k=>rfl
theorem ypVy [Fuel]:Ok 28 (ylKy (@z9z _)):=yaay std .nil ⟨rfl,rfl,by kernel_rfl,rfl,rfl,rfl⟩ (yKby NN) (cutsL (fun _=>rfl) (.cons ysSy (.cons yCPy .nil)) (by kernel_rfl)) Tryz.func28 (by kernel_rfl) (by kernel_rfl)
abbrev yuGy:Type 1:=G_Stream→Int→{R:Type}→(List G_Spot→G_Stream→Option R)→Option R
structure C_z37z where
 N:Nat
 z9z:T_z9z
 z73z:yp6y
 z75z:yuoy
 z70z:yp9y
 z63z:ymxy
 Stream_Odd:yh1y
 z21z:yuEy
def z37z_L4 (g:C_z37z):Nat→Int→Int→Int→G_Stream→List G_Spot→{R:Type}→(G_Stream→List G_Spot→Option R)→Option R
 | 0,_,_,_,_,_,_,_=>none
 | n + 1,v3,v4,v5,v6,v7,_,e0=>(bif (decide (v5 < v4)) then (g.z73z v6 [0,1,5,20] (fun r24 r25=>(g.z73z r25 [7000000,7100000,7299999,7300000,14000000,14010000,14020000,14020000,1800000,5000000] (fun r26 r27=>(g.z75z r27 (fun r28 r29=>(g.z70z r29 [[119,49,97,119],[110,49,109,109]] (fun r30 r31=>(g.z63z r31 80 (fun r32 r33=>(bif r32 then (g.Stream_Odd r33 0 100 (fun r34 r35=>(g.Stream_Odd r35 0 30000000000 (fun r36 r37=>(g.z70z r37 [[],[119,49,97,119]] (fun r38 r39=>(bif (decide ((v7.length + [(⟨r34,r36,r28,r38⟩:G_Spot)].length) * 48≤yaiy)) then z37z_L4 g n (w64 (v3 + r24)) v4 (w64 (v5 + 1)) r39 (v7 ++ [(⟨r34,r36,r28,r38⟩:G_Spot)]) e0 else none))))))) else (bif (decide ((v7.length + [(⟨(w64 (v3 + r24)),r26,r28,r30⟩:G_Spot)].length) * 48≤yaiy)) then z37z_L4 g n (w64 (v3 + r24)) v4 (w64 (v5 + 1)) r33 (v7 ++ [(⟨(w64 (v3 + r24)),r26,r28,r30⟩:G_Spot)]) e0 else none)))))))))))) else e0 v6 v7)
def z37z_ (g:C_z37z) (a1:G_Stream) (a2:Int) {R:Type} (k0:List G_Spot→G_Stream→Option R):Option R :=
 (z37z_L4 g g.N 0 a2 0 a1 [] (fun e40 e41=>(g.z21z e41 (fun r42=>(g.z9z r42 (fun r43=>k0 r43 e40))))))
noncomputable def ycjy [Fuel]:C_z37z:=⟨NN,@z9z _,@z73z _,@z75z _,@z70z _,@z63z _,@Stream_Odd _,@z21z _⟩
noncomputable def z37z [Fuel]:yuGy:=@z37z_ ycjy
def ynUy (g:yuGy):Spec A:=fun args=>match args with | [.box [.d (.sl 3 a1),.d (.int .i64 a2)],.d (.int .i64 a3)]=>fun k=>g ⟨a1,a2⟩ a3 (fun z0 z1=>k (.arr 32 z0) [.box [.d (.sl 3 z1.f_L),.d (.int .i64 z1.f_at)],.undef]) | _=>fun _=>none
def ykxy:SSt:=mkSh 47 10 [(0,.ptr 0 0),(5,.own 32 1),(6,.int .i64),(8,.int .i64),(9,.int .i64)] [(0,.box [.sl 3,.int .i64]),(1,.row 32)]
def yfdy (g:C_z37z) (n:Nat):LPT A:=fun ps=>match ps with | [.d (.int .i64 p1),.d (.int .i64 p2),.d (.int .i64 p3),.d (.sl 3 p4),.d (.int .i64 p5),.d (.sl 32 p6)]=>fun K=>z37z_L4 g n p1 p2 p3 ⟨p4,p5⟩ p6 (fun z0 z1=>K (.exit 0) (mkSt 47 10 [(0,.ptr 0 0),(5,.own 32 1)] [(0,some (.box [.d (.sl 3 z0.f_L),.d (.int .i64 z0.f_at)])),(1,some (.row 32 z1))])) | _=>fun _=>none
noncomputable def yzpy:Code:=(Tryz.f21.body).getD .skip
noncomputable def yrly (g:C_z37z):Env A:=mkE [(28,ylKy g.z9z),(51,yjKy g.z73z),(52,ym0y g.z75z),(53,yjfy g.z70z),(54,yhEy g.z63z),(55,yd6y g.Stream_Odd),(56,ymWy g.z21z)] [(7,[5]),(13,[2]),(18,[3]),(23,[4]),(33,[6]),(40,[7]),(41,[8]),(46,[9])] [(4,⟨[0,5,6,8,9],[(5,32,1)],[0],[],[],[],[]⟩)] [(4,⟨[0,5],[],[0,1],[],[],[],[]⟩)] [(4,yafy ykxy (yfdy g g.N))] [] [] [] [(28,0),(56,0)] [0]
theorem yG7y [Fuel]:yagy (yrly ycjy).C:=ct_of (P:=Tryz.prog) (T:=T) (.cons ypVy (.cons ysky (.cons yySy (.cons ysdy (.cons ymZy (.cons yljy (.cons yywy .nil))))))) (by kernel_rfl)
noncomputable def yqZy:Code:=sub [1,1,1,0,1,0,0] yzpy
theorem yCay (g:C_z37z) (n:Nat):yaly (yrly g) g.N yqZy ykxy (yfdy g) n:=by intro ps; unfold yfdy; split; exact .inr fun R K=>(by kernel_rfl); exact .inl fun R K=>rfl
theorem yAky [Fuel]:yaey (yrly ycjy) NN yqZy:=yahy ykxy (yfdy ycjy) (by kernel_rfl) yG7y (cuts0 (fun _=>rfl) (by kernel_rfl)) (fun ps R K=>by unfold yfdy; split <;> (try unfold z37z_L4) <;> rfl) (yCay ycjy)
theorem yGJy (g:C_z37z):Same (ynUy (@z37z_ g)) (abody (yrly g) Tryz.f21 yzpy 10 [0] [.arr 32] g.N):=by intro args; unfold ynUy; split; exact .inr fun R k=>(by kernel_rfl); exact .inl fun R k=>rfl
theorem yzny [Fuel]:Ok 21 (ynUy (@z37z _)):=yaay std (.cons ypVy (.cons ysky (.cons yySy (.cons ysdy (.cons ymZy (.cons yljy (.cons yywy .nil))))))) ⟨rfl,rfl,by kernel_rfl,rfl,rfl,rfl⟩ (yGJy ycjy) (cutsL (fun _=>rfl) (.cons yAky .nil) (by kernel_rfl)) Tryz.func21 (by kernel_rfl) (by kernel_rfl)
abbrev yqqy:Type 1:=Int→Int→Int→{R:Type}→(Bool→Option R)→Option R
def Q_in_ (g:Nat) (a1 a2 a3:Int) {R:Type} (k0:Bool→Option R):Option R :=
 (bif (decide (a2≤a1)) then k0 (decide (a1≤a3)) else k0 false)
noncomputable def Q_in [Fuel]:yqqy:=@Q_in_ NN
def yjuy (g:yqqy):Spec A:=fun args=>match args with | [.d (.int .i64 a1),.d (.int .i64 a2),.d (.int .i64 a3)]=>fun k=>g a1 a2 a3 (fun z0=>k (.d (.bool z0)) [.undef,.undef,.undef]) | _=>fun _=>none
noncomputable def yF5y:Code:=(Tryz.f59.body).getD .skip
noncomputable def yLSy (g:Nat):Env A:=mkE [] [] [] [] [] [] [] [] [] []
theorem yH3y (g:Nat):Same (yjuy (@Q_in_ g)) (abody (yLSy g) Tryz.f59 yF5y 0 [] [.asis] g):=by intro args; unfold yjuy; split; exact .inr fun R k=>(by kernel_rfl); exact .inl fun R k=>rfl
theorem yr9y [Fuel]:Ok 59 (yjuy (@Q_in _)):=yaay std .nil ⟨rfl,rfl,by kernel_rfl,rfl,rfl,rfl⟩ (yH3y NN) (cuts0 (fun _=>rfl) (by kernel_rfl)) Tryz.func59 (by kernel_rfl) (by kernel_rfl)
abbrev ykPy:Type 1:=Int→{R:Type}→(Bool→Option R)→Option R
structure C_Q_Moment where
 N:Nat
 Q_in:yqqy
def yl2y (g:C_Q_Moment) (a1:Int) {R:Type} (k0:Bool→Option R):Option R :=
 (g.Q_in a1 0 345686399999 (fun r2=>k0 r2))
noncomputable def yj8y [Fuel]:C_Q_Moment:=⟨NN,@Q_in _⟩
noncomputable def Q_Moment [Fuel]:ykPy:=@yl2y yj8y
def ygky (g:ykPy):Spec A:=fun args=>match args with | [.d (.int .i64 a1)]=>fun k=>g a1 (fun z0=>k (.d (.bool z0)) [.undef]) | _=>fun _=>none
noncomputable def yJYy:Code:=(Tryz.f58.body).getD .skip
noncomputable def yBpy (g:C_Q_Moment):Env A:=mkE [(59,yjuy g.Q_in)] [] [] [] [] [] [] [] [] []
theorem yxUy (g:C_Q_Moment):Same (ygky (@yl2y g)) (abody (yBpy g) Tryz.f58 yJYy 0 [] [.asis] g.N):=by intro args; unfold ygky; split; exact .inr fun R k=>(by kernel_rfl); exact .inl fun R k=>rfl
theorem yn5y [Fuel]:Ok 58 (ygky (@Q_Moment _)):=yaay std (.cons yr9y .nil) ⟨rfl,rfl,by kernel_rfl,rfl,rfl,rfl⟩ (yxUy yj8y) (cuts0 (fun _=>rfl) (by kernel_rfl)) Tryz.func58 (by kernel_rfl) (by kernel_rfl)
abbrev ycay:Type 1:=List UInt8→List UInt8→{R:Type}→(Int→Option R)→Option R
def stringslite_Index [Fuel]:ycay:=@X_ix1
def ycMy (g:ycay):Spec A:=yjoy g
theorem yfyy [Fuel]:Ok 236 (ycMy (@stringslite_Index _)):=⟨ytDy (yBJy (Any.stringslite_Index_one Tryz.lays219)),yxWy,enters_of (fn:=Tryz.f236) Tryz.func236 (by kernel_rfl) (by kernel_rfl)⟩
abbrev yudy:Type 1:=List UInt8→List UInt8→{R:Type}→(List UInt8→List UInt8→Bool→Option R)→Option R
structure C_z15z where
 N:Nat
 stringslite_Index:ycay
def z15z_ (g:C_z15z) (a1 a2:List UInt8) {R:Type} (k0:List UInt8→List UInt8→Bool→Option R):Option R :=
 (g.stringslite_Index a1 a2 (fun r3=>(bif (decide (r3 ≥ 0)) then (bif (decide (0≤r3) && decide (r3≤(a1.length:Int))) then (bif (decide (0≤(w64 (r3 + (a2.length:Int)))) && decide ((w64 (r3 + (a2.length:Int)))≤(a1.length:Int))) then k0 (a1.take (r3:Int).toNat) (a1.drop ((w64 (r3 + (a2.length:Int))):Int).toNat) true else none) else none) else k0 a1 [] false)))
noncomputable def yqty [Fuel]:C_z15z:=⟨NN,@stringslite_Index _⟩
noncomputable def z15z [Fuel]:yudy:=@z15z_ yqty
def ym9y (g:yudy):Spec A:=fun args=>match args with | [.d (.str a1),.d (.str a2)]=>fun k=>g a1 a2 (fun z0 z1 z2=>k (.tup [.d (.str z0),.d (.str z1),.d (.bool z2)]) [.undef,.undef]) | _=>fun _=>none
noncomputable def yEAy:Code:=(Tryz.f219.body).getD .skip
noncomputable def yLpy (g:C_z15z):Env A:=mkE [(236,ycMy g.stringslite_Index)] [] [] [] [] [] [] [] [] []
theorem yGGy (g:C_z15z):Same (ym9y (@z15z_ g)) (abody (yLpy g) Tryz.f219 yEAy 0 [] [.asis,.asis,.asis] g.N):=by intro args; unfold ym9y; split; exact .inr fun R k=>(by kernel_rfl); exact .inl fun R k=>rfl
theorem yGDy [Fuel]:Ok 219 (ym9y (@z15z _)):=yaay std (.cons yfyy .nil) ⟨rfl,rfl,by kernel_rfl,rfl,rfl,rfl⟩ (yGGy yqty) (cuts0 (fun _=>rfl) (by kernel_rfl)) Tryz.func219 (by kernel_rfl) (by kernel_rfl)
abbrev ypLy:Type 1:=List UInt8→List UInt8→{R:Type}→(List UInt8→List UInt8→Bool→Option R)→Option R
structure C_z32z where
 N:Nat
 z15z:yudy
def z32z_ (g:C_z32z) (a1 a2:List UInt8) {R:Type} (k0:List UInt8→List UInt8→Bool→Option R):Option R :=
 (g.z15z a1 a2 (fun r3 r4 r5=>k0 r3 r4 r5))
noncomputable def yDHy [Fuel]:C_z32z:=⟨NN,@z15z _⟩
noncomputable def z32z [Fuel]:ypLy:=@z32z_ yDHy
def yjPy (g:ypLy):Spec A:=fun args=>match args with | [.d (.str a1),.d (.str a2)]=>fun k=>g a1 a2 (fun z0 z1 z2=>k (.tup [.d (.str z0),.d (.str z1),.d (.bool z2)]) [.undef,.undef]) | _=>fun _=>none
noncomputable def yEyy:Code:=(Tryz.f169.body).getD .skip
noncomputable def yKBy (g:C_z32z):Env A:=mkE [(219,ym9y g.z15z)] [] [] [] [] [] [] [] [] []
theorem yJgy (g:C_z32z):Same (yjPy (@z32z_ g)) (abody (yKBy g) Tryz.f169 yEyy 0 [] [.asis,.asis,.asis] g.N):=by intro args; unfold yjPy; split; exact .inr fun R k=>(by kernel_rfl); exact .inl fun R k=>rfl
theorem yzUy [Fuel]:Ok 169 (yjPy (@z32z _)):=yaay std (.cons yGDy .nil) ⟨rfl,rfl,by kernel_rfl,rfl,rfl,rfl⟩ (yJgy yDHy) (cuts0 (fun _=>rfl) (by kernel_rfl)) Tryz.func169 (by kernel_rfl) (by kernel_rfl)
abbrev yc8y:Type 1:=List UInt8→Int→{R:Type}→(Int→Option R)→Option R
def strings_IndexRune [Fuel]:yc8y:=@X_ixr
def yeLy (g:yc8y):Spec A:=yjYy g
theorem yePy [Fuel]:Ok 260 (yeLy (@strings_IndexRune _)):=⟨ytjy (yDty (fun s r w h0 h1=>Any.strings_IndexRune_ascii Tryz.lays152 s r w h0 h1)),yx8y,enters_of (fn:=Tryz.f260) Tryz.func260 (by kernel_rfl) (by kernel_rfl)⟩
abbrev ybIy:Type 1:=Int→{R:Type}→(Bool→Option R)→Option R
def ycSy (g:Nat) (a1:Int) {R:Type} (k0:Bool→Option R):Option R :=
 k0 (decide (a1 > 8))
noncomputable def strings_shouldUseASCIISet [Fuel]:ybIy:=@ycSy NN
def ybcy (g:ybIy):Spec A:=fun args=>match args with | [.d (.int .i64 a1)]=>fun k=>g a1 (fun z0=>k (.d (.bool z0)) [.undef]) | _=>fun _=>none
noncomputable def yEKy:Code:=(Tryz.f261.body).getD .skip
noncomputable def ygBy (g:Nat):Env A:=mkE [] [] [] [] [] [] [] [] [] []
theorem yfZy (g:Nat):Same (ybcy (@ycSy g)) (abody (ygBy g) Tryz.f261 yEKy 0 [] [.asis] g):=by intro args; unfold ybcy; split; exact .inr fun R k=>(by kernel_rfl); exact .inl fun R k=>rfl
theorem ycHy [Fuel]:Ok 261 (ybcy (@strings_shouldUseASCIISet _)):=yaay std .nil ⟨rfl,rfl,by kernel_rfl,rfl,rfl,rfl⟩ (yfZy NN) (cuts0 (fun _=>rfl) (by kernel_rfl)) Tryz.func261 (by kernel_rfl) (by kernel_rfl)
abbrev ycqy:Type 1:=List UInt8→{R:Type}→Option R
def yeCy (g:Nat) (a1:List UInt8) {R:Type}  : Option R :=
 none
noncomputable def strings_makeASCIISet [Fuel]:ycqy:=@yeCy NN
def ybzy (g:ycqy):Spec A:=fun args=>match args with | [.d (.str a1)]=>fun k=>g a1 | _=>fun _=>none
noncomputable def yvgy:Code:=(Tryz.f195.body).getD .skip
noncomputable def yd0y (g:Nat):Env A:=mkE [] [] [] [] [] [] [] [] [] []
noncomputable def yg6y:Code:=sub [1,0,1,0,0] yvgy
theorem yg3y [Fuel]:yaey (yd0y NN) NN yg6y:=ynoy (by kernel_rfl)
theorem yioy (g:Nat):Same (ybzy (@yeCy g)) (abody (yd0y g) Tryz.f195 yvgy 0 [] [.asis,.asis] g):=by intro args; unfold ybzy; split; exact .inr fun R k=>(by kernel_rfl); exact .inl fun R k=>rfl
theorem ydHy [Fuel]:Ok 195 (ybzy (@strings_makeASCIISet _)):=yaay std .nil ⟨rfl,rfl,by kernel_rfl,rfl,rfl,rfl⟩ (yioy NN) (cutsL (fun _=>rfl) (.cons yg3y .nil) (by kernel_rfl)) Tryz.func195 (by kernel_rfl) (by kernel_rfl)
abbrev ywCy:Type 1:=Int→{R:Type}→Option R
def z87z_ (g:Nat) (a1:Int) {R:Type}  : Option R :=
 none
noncomputable def z87z [Fuel]:ywCy:=@z87z_ NN
def ynby (g:ywCy):Spec A:=fun args=>match args with | [.d (.int .u8 a1)]=>fun k=>g a1 | _=>fun _=>none
noncomputable def yExy:Code:=(Tryz.f270.body).getD .skip
noncomputable def yKcy (g:Nat):Env A:=mkE [] [] [] [] [] [] [] [] [] []
theorem yJFy (g:Nat):Same (ynby (@z87z_ g)) (abody (yKcy g) Tryz.f270 yExy 0 [] [.asis] g):=by intro args; unfold ynby; split; exact .inr fun R k=>(by kernel_rfl); exact .inl fun R k=>rfl
theorem yzKy [Fuel]:Ok 270 (ynby (@z87z _)):=yaay std .nil ⟨rfl,rfl,by kernel_rfl,rfl,rfl,rfl⟩ (yJFy NN) (cuts0 (fun _=>rfl) (by kernel_rfl)) Tryz.func270 (by kernel_rfl) (by kernel_rfl)
abbrev yvPy:Type 1:=List UInt8→{R:Type}→(Int→Int→Option R)→Option R
def z59z_ (g:Nat) (a1:List UInt8) {R:Type} (k0:Int→Int→Option R):Option R :=
 (bif (decide ((a1.length:Int) < 1)) then k0 65533 0 else (at_ a1 0 fun x2=>none))
noncomputable def z59z [Fuel]:yvPy:=@z59z_ NN
def ynQy (g:yvPy):Spec A:=fun args=>match args with | [.d (.str a1)]=>fun k=>g a1 (fun z0 z1=>k (.tup [.d (.int .i32 z0),.d (.int .i64 z1)]) [.undef]) | _=>fun _=>none
noncomputable def yEqy:Code:=(Tryz.f266.body).getD .skip
noncomputable def yKty (g:Nat):Env A:=mkE [] [] [] [] [] [] [] [] [] []
theorem yHwy (g:Nat):Same (ynQy (@z59z_ g)) (abody (yKty g) Tryz.f266 yEqy 0 [] [.asis,.asis] g):=by intro args; unfold ynQy; split; exact .inr fun R k=>(by kernel_rfl); exact .inl fun R k=>rfl
theorem yJby [Fuel]:Ok 266 (ynQy (@z59z _)):=yaay std .nil ⟨rfl,rfl,by kernel_rfl,rfl,rfl,rfl⟩ (yHwy NN) (cuts0 (fun _=>rfl) (by kernel_rfl)) Tryz.func266 (by kernel_rfl) (by kernel_rfl)
abbrev yu3y:Type 1:=List UInt8→{R:Type}→(Int→Int→Option R)→Option R
structure C_z52z where
 N:Nat
 z59z:yvPy
def z52z_ (g:C_z52z) (a1:List UInt8) {R:Type} (k0:Int→Int→Option R):Option R :=
 (bif (!(a1 == [])) then (at_ a1 0 fun x2=>(bif (decide ((x2.toNat:Int) < 128)) then (at_ a1 0 fun x3=>k0 (IntKind.i32.wrap (x3.toNat:Int)) 1) else (g.z59z a1 (fun r4 r5=>k0 r4 r5)))) else (g.z59z a1 (fun r6 r7=>k0 r6 r7)))
noncomputable def yB8y [Fuel]:C_z52z:=⟨NN,@z59z _⟩
noncomputable def z52z [Fuel]:yu3y:=@z52z_ yB8y
def ynmy (g:yu3y):Spec A:=fun args=>match args with | [.d (.str a1)]=>fun k=>g a1 (fun z0 z1=>k (.tup [.d (.int .i32 z0),.d (.int .i64 z1)]) [.undef]) | _=>fun _=>none
noncomputable def yEhy:Code:=(Tryz.f234.body).getD .skip
noncomputable def yKIy (g:C_z52z):Env A:=mkE [(266,ynQy g.z59z)] [] [] [] [] [] [] [] [] []
theorem yIPy (g:C_z52z):Same (ynmy (@z52z_ g)) (abody (yKIy g) Tryz.f234 yEhy 0 [] [.asis,.asis] g.N):=by intro args; unfold ynmy; split; exact .inr fun R k=>(by kernel_rfl); exact .inl fun R k=>rfl
theorem yyTy [Fuel]:Ok 234 (ynmy (@z52z _)):=yaay std (.cons yJby .nil) ⟨rfl,rfl,by kernel_rfl,rfl,rfl,rfl⟩ (yIPy yB8y) (cuts0 (fun _=>rfl) (by kernel_rfl)) Tryz.func234 (by kernel_rfl) (by kernel_rfl)
end Go.Am
