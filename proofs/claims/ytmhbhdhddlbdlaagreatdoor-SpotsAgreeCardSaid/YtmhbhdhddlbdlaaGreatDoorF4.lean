/- The functions of the program as Lean functions, each shown to be what the code computes, part 4. No condition: lemmas for the claim. -/
import Derived.Test.YtmhbhdhddlbdlaaGreatDoorF0
import Derived.Test.YtmhbhdhddlbdlaaGreatDoorFSh
import Derived.Test.YtmhbhdhddlbdlaaGreatDoorF1
import Derived.Test.YtmhbhdhddlbdlaaGreatDoorF2
import Derived.Test.YtmhbhdhddlbdlaaGreatDoorF3
set_option linter.unusedVariables false
set_option maxRecDepth 100000
namespace Go.Am
open Go Go.Proofs
abbrev ywqy:Type 1:=G_Stream→List G_Spot→{R:Type}→(List G_Spot→List G_Spot→G_Stream→Option R)→Option R
structure C_z31z where
 N:Nat
 z51z:yhJy
def z31z_L3 (g:C_z31z):Nat→List G_Spot→Int→Int→G_Stream→List G_Spot→List G_Spot→{R:Type}→(G_Stream→List G_Spot→List G_Spot→Option R)→Option R
 | 0,_,_,_,_,_,_,_,_=>none
 | n + 1,v3,v4,v5,v6,v7,v8,_,e0=>(bif (decide (v5 < v4)) then (get_ v3 v5 fun x12=>(g.z51z v6 3 (fun r13 r14=>(bif (r13 == 0) then (bif (decide ((v7.length + [x12].length) * 48≤yaiy)) then z31z_L3 g n v3 v4 (w64 (v5 + 1)) r14 (v7 ++ [x12]) v8 e0 else none) else (bif (r13 == 1) then (bif (decide ((v8.length + [x12].length) * 48≤yaiy)) then z31z_L3 g n v3 v4 (w64 (v5 + 1)) r14 v7 (v8 ++ [x12]) e0 else none) else (bif (decide ((v7.length + [x12].length) * 48≤yaiy)) then (bif (decide ((v8.length + [x12].length) * 48≤yaiy)) then z31z_L3 g n v3 v4 (w64 (v5 + 1)) r14 (v7 ++ [x12]) (v8 ++ [x12]) e0 else none) else none)))))) else e0 v6 v7 v8)
def z31z_ (g:C_z31z) (a1:G_Stream) (a2:List G_Spot) {R:Type} (k0:List G_Spot→List G_Spot→G_Stream→Option R):Option R :=
 (z31z_L3 g g.N a2 (a2.length:Int) 0 a1 [] [] (fun e15 e16 e17=>k0 e16 e17 e15))
noncomputable def ygHy [Fuel]:C_z31z:=⟨NN,@z51z _⟩
noncomputable def z31z [Fuel]:ywqy:=@z31z_ ygHy
def ynky (g:ywqy):Spec A:=fun args=>match args with | [.box [.d (.sl 3 a1),.d (.int .i64 a2)],.d (.sl 32 a3)]=>fun k=>g ⟨a1,a2⟩ a3 (fun z0 z1 z2=>k (.tup [.arr 32 z0,.arr 32 z1]) [.box [.d (.sl 3 z2.f_L),.d (.int .i64 z2.f_at)],.undef]) | _=>fun _=>none
def yldy:SSt:=mkSh 41 12 [(0,.ptr 0 0),(6,.own 32 1),(7,.own 32 2),(10,.sl 32),(11,.int .i64),(12,.int .i64)] [(0,.box [.sl 3,.int .i64]),(1,.row 32),(2,.row 32)]
def yfty (g:C_z31z) (n:Nat):LPT A:=fun ps=>match ps with | [.d (.sl 32 p1),.d (.int .i64 p2),.d (.int .i64 p3),.d (.sl 3 p4),.d (.int .i64 p5),.d (.sl 32 p6),.d (.sl 32 p7)]=>fun K=>z31z_L3 g n p1 p2 p3 ⟨p4,p5⟩ p6 p7 (fun z0 z1 z2=>K (.exit 0) (mkSt 41 12 [(0,.ptr 0 0),(6,.own 32 1),(7,.own 32 2)] [(0,some (.box [.d (.sl 3 z0.f_L),.d (.int .i64 z0.f_at)])),(1,some (.row 32 z1)),(2,some (.row 32 z2))])) | _=>fun _=>none
noncomputable def yCTy:Code:=(Tryz.f7.body).getD .skip
noncomputable def ypSy (g:C_z31z):Env A:=mkE [(23,yeAy g.z51z)] [(9,[3]),(20,[8]),(21,[10]),(24,[9]),(25,[11]),(30,[4]),(31,[5]),(36,[6]),(37,[7])] [(3,⟨[0,6,7,10,11,12],[(6,32,1),(7,32,2)],[0],[],[],[],[]⟩)] [(3,⟨[0,6,7],[],[0,1,2],[],[],[],[]⟩)] [(3,yafy yldy (yfty g g.N))] [] [] [] [] [0]
theorem yH9y [Fuel]:yagy (ypSy ygHy).C:=ct_of (P:=Tryz.prog) (T:=T) (.cons yhBy .nil) (by kernel_rfl)
noncomputable def yq2y:Code:=sub [1,1,0,1,0,0] yCTy
theorem yDvy (g:C_z31z) (n:Nat):yaly (ypSy g) g.N yq2y yldy (yfty g) n:=by intro ps; unfold yfty; split; exact .inr fun R K=>(by kernel_rfl); exact .inl fun R K=>rfl
theorem yBwy [Fuel]:yaey (ypSy ygHy) NN yq2y:=yahy yldy (yfty ygHy) (by kernel_rfl) yH9y (cuts0 (fun _=>rfl) (by kernel_rfl)) (fun ps R K=>by unfold yfty; split <;> (try unfold z31z_L3) <;> rfl) (yDvy ygHy)
theorem yH4y (g:C_z31z):Same (ynky (@z31z_ g)) (abody (ypSy g) Tryz.f7 yCTy 12 [0] [.arr 32,.arr 32] g.N):=by intro args; unfold ynky; split; exact .inr fun R k=>(by kernel_rfl); exact .inl fun R k=>rfl
theorem yIoy [Fuel]:Ok 7 (ynky (@z31z _)):=yaay std (.cons yhBy .nil) ⟨rfl,rfl,by kernel_rfl,rfl,rfl,rfl⟩ (yH4y ygHy) (cutsL (fun _=>rfl) (.cons yBwy .nil) (by kernel_rfl)) Tryz.func7 (by kernel_rfl) (by kernel_rfl)
abbrev ydNy:Type 1:=Int→Int→Int→{R:Type}→(Bool→Option R)→Option R
def z45z_ (g:Nat) (a1 a2 a3:Int) {R:Type} (k0:Bool→Option R):Option R :=
 (bif (decide (a1 < a2)) then k0 true else k0 (decide (a1 > a3)))
noncomputable def z45z [Fuel]:ydNy:=@z45z_ NN
def ycvy (g:ydNy):Spec A:=fun args=>match args with | [.d (.int .i64 a1),.d (.int .i64 a2),.d (.int .i64 a3)]=>fun k=>g a1 a2 a3 (fun z0=>k (.d (.bool z0)) [.undef,.undef,.undef]) | _=>fun _=>none
noncomputable def yJly:Code:=(Tryz.f63.body).getD .skip
noncomputable def yKCy (g:Nat):Env A:=mkE [] [] [] [] [] [] [] [] [] []
theorem yI1y (g:Nat):Same (ycvy (@z45z_ g)) (abody (yKCy g) Tryz.f63 yJly 0 [] [.asis] g):=by intro args; unfold ycvy; split; exact .inr fun R k=>(by kernel_rfl); exact .inl fun R k=>rfl
theorem yc5y [Fuel]:Ok 63 (ycvy (@z45z _)):=yaay std .nil ⟨rfl,rfl,by kernel_rfl,rfl,rfl,rfl⟩ (yI1y NN) (cuts0 (fun _=>rfl) (by kernel_rfl)) Tryz.func63 (by kernel_rfl) (by kernel_rfl)
abbrev yh4y:Type 1:=Int→{R:Type}→(Bool→Option R)→Option R
structure C_z49z where
 N:Nat
 z45z:ydNy
def z49z_ (g:C_z49z) (a1:Int) {R:Type} (k0:Bool→Option R):Option R :=
 (g.z45z a1 0 345686399999 (fun r2=>k0 (!r2)))
noncomputable def ywwy [Fuel]:C_z49z:=⟨NN,@z45z _⟩
noncomputable def z49z [Fuel]:yh4y:=@z49z_ ywwy
def yevy (g:yh4y):Spec A:=fun args=>match args with | [.d (.int .i64 a1)]=>fun k=>g a1 (fun z0=>k (.d (.bool z0)) [.undef]) | _=>fun _=>none
noncomputable def yHny:Code:=(Tryz.f62.body).getD .skip
noncomputable def yLRy (g:C_z49z):Env A:=mkE [(63,ycvy g.z45z)] [] [] [] [] [] [] [] [] []
theorem yIiy (g:C_z49z):Same (yevy (@z49z_ g)) (abody (yLRy g) Tryz.f62 yHny 0 [] [.asis] g.N):=by intro args; unfold yevy; split; exact .inr fun R k=>(by kernel_rfl); exact .inl fun R k=>rfl
theorem yhFy [Fuel]:Ok 62 (yevy (@z49z _)):=yaay std (.cons yc5y .nil) ⟨rfl,rfl,by kernel_rfl,rfl,rfl,rfl⟩ (yIiy ywwy) (cuts0 (fun _=>rfl) (by kernel_rfl)) Tryz.func62 (by kernel_rfl) (by kernel_rfl)
abbrev ywQy:Type 1:=Int→{R:Type}→(Bool→Option R)→Option R
def z88z_ (g:Nat) (a1:Int) {R:Type} (k0:Bool→Option R):Option R :=
 (bif (decide (a1 ≥ 97)) then k0 (decide (a1≤122)) else k0 false)
noncomputable def z88z [Fuel]:ywQy:=@z88z_ NN
def ynCy (g:ywQy):Spec A:=fun args=>match args with | [.d (.int .u8 a1)]=>fun k=>g a1 (fun z0=>k (.d (.bool z0)) [.undef]) | _=>fun _=>none
noncomputable def yFRy:Code:=(Tryz.f263.body).getD .skip
noncomputable def yLKy (g:Nat):Env A:=mkE [] [] [] [] [] [] [] [] [] []
theorem yF7y (g:Nat):Same (ynCy (@z88z_ g)) (abody (yLKy g) Tryz.f263 yFRy 0 [] [.asis] g):=by intro args; unfold ynCy; split; exact .inr fun R k=>(by kernel_rfl); exact .inl fun R k=>rfl
theorem yyJy [Fuel]:Ok 263 (ynCy (@z88z _)):=yaay std .nil ⟨rfl,rfl,by kernel_rfl,rfl,rfl,rfl⟩ (yF7y NN) (cuts0 (fun _=>rfl) (by kernel_rfl)) Tryz.func263 (by kernel_rfl) (by kernel_rfl)
abbrev yqWy:Type 1:=Int→{R:Type}→(Bool→Option R)→Option R
def z82z_ (g:Nat) (a1:Int) {R:Type} (k0:Bool→Option R):Option R :=
 (bif (decide (a1 ≥ 48)) then k0 (decide (a1≤57)) else k0 false)
noncomputable def z82z [Fuel]:yqWy:=@z82z_ NN
def yjpy (g:yqWy):Spec A:=fun args=>match args with | [.d (.int .u8 a1)]=>fun k=>g a1 (fun z0=>k (.d (.bool z0)) [.undef]) | _=>fun _=>none
noncomputable def yEYy:Code:=(Tryz.f226.body).getD .skip
noncomputable def yJ2y (g:Nat):Env A:=mkE [] [] [] [] [] [] [] [] [] []
theorem yHuy (g:Nat):Same (yjpy (@z82z_ g)) (abody (yJ2y g) Tryz.f226 yEYy 0 [] [.asis] g):=by intro args; unfold yjpy; split; exact .inr fun R k=>(by kernel_rfl); exact .inl fun R k=>rfl
theorem yrVy [Fuel]:Ok 226 (yjpy (@z82z _)):=yaay std .nil ⟨rfl,rfl,by kernel_rfl,rfl,rfl,rfl⟩ (yHuy NN) (cuts0 (fun _=>rfl) (by kernel_rfl)) Tryz.func226 (by kernel_rfl) (by kernel_rfl)
abbrev yqfy:Type 1:=List UInt8→{R:Type}→(Int→Bool→Option R)→Option R
structure C_z39z where
 N:Nat
 z82z:yqWy
 z88z:ywQy
def z39z_L2 (g:C_z39z):Nat→List UInt8→Int→Int→Int→{R:Type}→(Int→Bool→Option R)→(Int→Option R)→Option R
 | 0,_,_,_,_,_,_,_=>none
 | n + 1,v2,v3,v4,v5,_,e0,e1=>(bif (decide (v5 < v4)) then (get_ v2 v5 fun x10=>(g.z88z (x10.toNat:Int) (fun r11=>(bif r11 then z39z_L2 g n v2 (w64 (v3 + 1)) v4 (w64 (v5 + 1)) e0 e1 else (get_ v2 v5 fun x12=>(g.z82z (x12.toNat:Int) (fun r13=>(bif (!r13) then e0 0 false else z39z_L2 g n v2 v3 v4 (w64 (v5 + 1)) e0 e1)))))))) else e1 v3)
def z39z_ (g:C_z39z) (a1:List UInt8) {R:Type} (k0:Int→Bool→Option R):Option R :=
 (z39z_L2 g g.N a1 0 (a1.length:Int) 0 (fun e14 e15=>k0 e14 e15) (fun e16=>k0 e16 true))
noncomputable def ydZy [Fuel]:C_z39z:=⟨NN,@z82z _,@z88z _⟩
noncomputable def z39z [Fuel]:yqfy:=@z39z_ ydZy
def yjry (g:yqfy):Spec A:=fun args=>match args with | [.d (.str a1)]=>fun k=>g a1 (fun z0 z1=>k (.tup [.d (.int .i64 z0),.d (.bool z1)]) [.undef]) | _=>fun _=>none
def ykyy:SSt:=mkSh 25 0 [(0,.str),(2,.int .i64),(6,.int .i64),(7,.int .i64)] []
def ye6y (g:C_z39z) (n:Nat):LPT A:=fun ps=>match ps with | [.d (.str p1),.d (.int .i64 p2),.d (.int .i64 p3),.d (.int .i64 p4)]=>fun K=>z39z_L2 g n p1 p2 p3 p4 (fun z0 z1=>K .ret (mkSt 25 0 [(2,.d (.int .i64 z0)),(3,.d (.bool z1))] [])) (fun z0=>K (.exit 0) (mkSt 25 0 [(2,.d (.int .i64 z0))] [])) | _=>fun _=>none
noncomputable def yury:Code:=(Tryz.f225.body).getD .skip
noncomputable def yrjy (g:C_z39z):Env A:=mkE [(226,yjpy g.z82z),(263,ynCy g.z88z)] [] [(2,⟨[0,2,6,7],[],[],[],[],[],[]⟩)] [(2,⟨[2,3],[],[],[],[],[],[]⟩)] [(2,yafy ykyy (ye6y g g.N))] [] [] [] [] []
theorem yIjy [Fuel]:yagy (yrjy ydZy).C:=ct_of (P:=Tryz.prog) (T:=T) (.cons yrVy (.cons yyJy .nil)) (by kernel_rfl)
noncomputable def yq3y:Code:=sub [1,0,1,0,0] yury
theorem yDGy (g:C_z39z) (n:Nat):yaly (yrjy g) g.N yq3y ykyy (ye6y g) n:=by intro ps; unfold ye6y; split; exact .inr fun R K=>(by kernel_rfl); exact .inl fun R K=>rfl
theorem yBAy [Fuel]:yaey (yrjy ydZy) NN yq3y:=yahy ykyy (ye6y ydZy) (by kernel_rfl) yIjy (cuts0 (fun _=>rfl) (by kernel_rfl)) (fun ps R K=>by unfold ye6y; split <;> (try unfold z39z_L2) <;> rfl) (yDGy ydZy)
theorem yGty (g:C_z39z):Same (yjry (@z39z_ g)) (abody (yrjy g) Tryz.f225 yury 0 [] [.asis,.asis] g.N):=by intro args; unfold yjry; split; exact .inr fun R k=>(by kernel_rfl); exact .inl fun R k=>rfl
theorem yypy [Fuel]:Ok 225 (yjry (@z39z _)):=yaay std (.cons yrVy (.cons yyJy .nil)) ⟨rfl,rfl,by kernel_rfl,rfl,rfl,rfl⟩ (yGty ydZy) (cutsL (fun _=>rfl) (.cons yBAy .nil) (by kernel_rfl)) Tryz.func225 (by kernel_rfl) (by kernel_rfl)
abbrev yhOy:Type 1:=List UInt8→{R:Type}→(Int→Bool→Option R)→Option R
structure C_call_split where
 N:Nat
 z3z:T_z3z
 z39z:yqfy
def ybiy (g:C_call_split) (a1:List UInt8) {R:Type} (k0:Int→Bool→Option R):Option R :=
 (g.z39z a1 (fun r2 r3=>(bif (!r3) then k0 0 false else (bif (decide ((a1.length:Int) > 10)) then k0 0 false else (g.z3z a1 [48,49,50,51,52,53,54,55,56,57] (fun r4=>(bif (decide (r4 < 1)) then k0 0 false else (bif (decide (r4 > 3)) then k0 0 false else (bif (decide ((w64 ((w64 ((a1.length:Int) - r4)) - 1)) < 1)) then k0 0 false else (bif (decide ((w64 ((w64 ((a1.length:Int) - r4)) - 1)) > 4)) then k0 0 false else (bif (decide (0≤r4) && decide (r4≤(a1.length:Int))) then (g.z39z (a1.take (r4:Int).toNat) (fun r5 r6=>k0 r4 (decide (r5 > 0)))) else none)))))))))))
noncomputable def ycIy [Fuel]:C_call_split:=⟨NN,@z3z _,@z39z _⟩
noncomputable def call_split [Fuel]:yhOy:=@ybiy ycIy
def yd2y (g:yhOy):Spec A:=fun args=>match args with | [.d (.str a1)]=>fun k=>g a1 (fun z0 z1=>k (.tup [.d (.int .i64 z0),.d (.bool z1)]) [.undef]) | _=>fun _=>none
noncomputable def yEty:Code:=(Tryz.f224.body).getD .skip
noncomputable def yxly (g:C_call_split):Env A:=mkE [(220,yvZy g.z3z),(225,yjry g.z39z)] [] [] [] [] [] [] [] [] []
theorem ytCy (g:C_call_split):Same (yd2y (@ybiy g)) (abody (yxly g) Tryz.f224 yEty 0 [] [.asis,.asis] g.N):=by intro args; unfold yd2y; split; exact .inr fun R k=>(by kernel_rfl); exact .inl fun R k=>rfl
theorem ytqy [Fuel]:Ok 224 (yd2y (@call_split _)):=yaay std (.cons yDCy (.cons yypy .nil)) ⟨rfl,rfl,by kernel_rfl,rfl,rfl,rfl⟩ (ytCy ycIy) (cuts0 (fun _=>rfl) (by kernel_rfl)) Tryz.func224 (by kernel_rfl) (by kernel_rfl)
abbrev yhKy:Type 1:=List UInt8→{R:Type}→(G_Parts→Bool→Option R)→Option R
structure C_call_based where
 N:Nat
 call_split:yhOy
def ygly (g:C_call_based) (a1:List UInt8) {R:Type} (k0:G_Parts→Bool→Option R):Option R :=
 (g.call_split a1 (fun r2 r3=>(bif (!r3) then k0 (⟨[],[],[],0,[]⟩:G_Parts) false else (bif (decide (0≤(w64 (r2 + 1))) && decide ((w64 (r2 + 1))≤(a1.length:Int))) then (bif (decide (0≤(w64 (r2 + 1))) && decide ((w64 (r2 + 1))≤(a1.length:Int))) then k0 (⟨a1,(a1.take ((w64 (r2 + 1)):Int).toNat),(a1.drop ((w64 (r2 + 1)):Int).toNat),0,[]⟩:G_Parts) true else none) else none))))
noncomputable def ydwy [Fuel]:C_call_based:=⟨NN,@call_split _⟩
noncomputable def call_based [Fuel]:yhKy:=@ygly ydwy
def yecy (g:yhKy):Spec A:=fun args=>match args with | [.d (.str a1)]=>fun k=>g a1 (fun z0 z1=>k (.tup [.agg [.d (.str z0.f_Base),.d (.str z0.f_Prefix),.d (.str z0.f_Suffix),.d (.int .i64 z0.f_Kind),.d (.str z0.f_Added)],.d (.bool z1)]) [.undef]) | _=>fun _=>none
noncomputable def yESy:Code:=(Tryz.f174.body).getD .skip
noncomputable def ytGy (g:C_call_based):Env A:=mkE [(224,yd2y g.call_split)] [(2,[0])] [] [] [] [] [] [] [] []
theorem ythy (g:C_call_based):Same (yecy (@ygly g)) (abody (ytGy g) Tryz.f174 yESy 1 [] [.asis,.asis] g.N):=by intro args; unfold yecy; split; exact .inr fun R k=>(by kernel_rfl); exact .inl fun R k=>rfl
theorem ytxy [Fuel]:Ok 174 (yecy (@call_based _)):=yaay std (.cons ytqy .nil) ⟨rfl,rfl,by kernel_rfl,rfl,rfl,rfl⟩ (ythy ydwy) (cuts0 (fun _=>rfl) (by kernel_rfl)) Tryz.func174 (by kernel_rfl) (by kernel_rfl)
abbrev yqFy:Type 1:=List UInt8→{R:Type}→(Bool→Option R)→Option R
structure C_z64z where
 N:Nat
 z39z:yqfy
def z64z_ (g:C_z64z) (a1:List UInt8) {R:Type} (k0:Bool→Option R):Option R :=
 (g.z39z a1 (fun r2 r3=>(bif r3 then (bif (decide (r2 > 0)) then k0 (decide ((a1.length:Int)≤4)) else k0 false) else k0 false)))
noncomputable def ypYy [Fuel]:C_z64z:=⟨NN,@z39z _⟩
noncomputable def z64z [Fuel]:yqFy:=@z64z_ ypYy
def yjWy (g:yqFy):Spec A:=fun args=>match args with | [.d (.str a1)]=>fun k=>g a1 (fun z0=>k (.d (.bool z0)) [.undef]) | _=>fun _=>none
noncomputable def yECy:Code:=(Tryz.f175.body).getD .skip
noncomputable def yLhy (g:C_z64z):Env A:=mkE [(225,yjry g.z39z)] [] [] [] [] [] [] [] [] []
theorem yIWy (g:C_z64z):Same (yjWy (@z64z_ g)) (abody (yLhy g) Tryz.f175 yECy 0 [] [.asis] g.N):=by intro args; unfold yjWy; split; exact .inr fun R k=>(by kernel_rfl); exact .inl fun R k=>rfl
theorem yyYy [Fuel]:Ok 175 (yjWy (@z64z _)):=yaay std (.cons yypy .nil) ⟨rfl,rfl,by kernel_rfl,rfl,rfl,rfl⟩ (yIWy ypYy) (cuts0 (fun _=>rfl) (by kernel_rfl)) Tryz.func175 (by kernel_rfl) (by kernel_rfl)
abbrev yjcy:Type 1:=List UInt8→{R:Type}→(Int→List UInt8→Bool→Option R)→Option R
structure C_call_tail where
 N:Nat
 z64z:yqFy
 z82z:yqWy
def yhhy (g:C_call_tail) (a1:List UInt8) {R:Type} (k0:Int→List UInt8→Bool→Option R):Option R :=
 (bif (a1 == [112]) then k0 3 [] true else (bif (a1 == [109]) then k0 4 [] true else (bif (a1 == [109,109]) then k0 5 [] true else (bif (a1 == [97,109]) then k0 6 [] true else (bif ((a1.length:Int) == 1) then (at_ a1 0 fun x2=>(g.z82z (x2.toNat:Int) (fun r3=>(bif r3 then k0 2 a1 true else (g.z64z a1 (fun r4=>k0 1 a1 r4)))))) else (g.z64z a1 (fun r5=>k0 1 a1 r5)))))))
noncomputable def ydQy [Fuel]:C_call_tail:=⟨NN,@z64z _,@z82z _⟩
noncomputable def call_tail [Fuel]:yjcy:=@yhhy ydQy
def ye0y (g:yjcy):Spec A:=fun args=>match args with | [.d (.str a1)]=>fun k=>g a1 (fun z0 z1 z2=>k (.tup [.d (.int .i64 z0),.d (.str z1),.d (.bool z2)]) [.undef]) | _=>fun _=>none
noncomputable def yENy:Code:=(Tryz.f176.body).getD .skip
noncomputable def yxVy (g:C_call_tail):Env A:=mkE [(175,yjWy g.z64z),(226,yjpy g.z82z)] [] [] [] [] [] [] [] [] []
theorem yuQy (g:C_call_tail):Same (ye0y (@yhhy g)) (abody (yxVy g) Tryz.f176 yENy 0 [] [.asis,.asis,.asis] g.N):=by intro args; unfold ye0y; split; exact .inr fun R k=>(by kernel_rfl); exact .inl fun R k=>rfl
theorem yuAy [Fuel]:Ok 176 (ye0y (@call_tail _)):=yaay std (.cons yyYy (.cons yrVy .nil)) ⟨rfl,rfl,by kernel_rfl,rfl,rfl,rfl⟩ (yuQy ydQy) (cuts0 (fun _=>rfl) (by kernel_rfl)) Tryz.func176 (by kernel_rfl) (by kernel_rfl)
abbrev yfqy:Type 1:=List UInt8→{R:Type}→(G_Parts→Bool→Option R)→Option R
structure C_call_Parts where
 N:Nat
 z32z:ypLy
 call_based:yhKy
 z64z:yqFy
 call_tail:yjcy
def ygjy (g:C_call_Parts) (a1:List UInt8) {R:Type} (k0:G_Parts→Bool→Option R):Option R :=
 (bif (decide ((a1.length:Int) > 14)) then k0 (⟨[],[],[],0,[]⟩:G_Parts) false else (g.call_based a1 (fun r2 r3=>(bif r3 then k0 r2 true else (g.z32z a1 [47] (fun r4 r5 r6=>(bif (!r6) then k0 (⟨[],[],[],0,[]⟩:G_Parts) false else (g.call_based r5 (fun r7 r8=>(bif r8 then (g.z64z r4 (fun r9=>(bif r9 then k0 (⟨r7.f_Base,r7.f_Prefix,r7.f_Suffix,1,r4⟩:G_Parts) true else (g.call_based r4 (fun r10 r11=>(g.call_tail r5 (fun r12 r13 r14=>(bif (!r11) then k0 (⟨[],[],[],0,[]⟩:G_Parts) false else (bif (!r14) then k0 (⟨[],[],[],0,[]⟩:G_Parts) false else k0 (⟨r10.f_Base,r10.f_Prefix,r10.f_Suffix,r12,r13⟩:G_Parts) true))))))))) else (g.call_based r4 (fun r15 r16=>(g.call_tail r5 (fun r17 r18 r19=>(bif (!r16) then k0 (⟨[],[],[],0,[]⟩:G_Parts) false else (bif (!r19) then k0 (⟨[],[],[],0,[]⟩:G_Parts) false else k0 (⟨r15.f_Base,r15.f_Prefix,r15.f_Suffix,r17,r18⟩:G_Parts) true))))))))))))))))
noncomputable def ybay [Fuel]:C_call_Parts:=⟨NN,@z32z _,@call_based _,@z64z _,@call_tail _⟩
noncomputable def call_Parts [Fuel]:yfqy:=@ygjy ybay
def ycXy (g:yfqy):Spec A:=fun args=>match args with | [.d (.str a1)]=>fun k=>g a1 (fun z0 z1=>k (.tup [.agg [.d (.str z0.f_Base),.d (.str z0.f_Prefix),.d (.str z0.f_Suffix),.d (.int .i64 z0.f_Kind),.d (.str z0.f_Added)],.d (.bool z1)]) [.undef]) | _=>fun _=>none
noncomputable def yEcy:Code:=(Tryz.f110.body).getD .skip
noncomputable def ywxy (g:C_call_Parts):Env A:=mkE [(169,yjPy g.z32z),(174,yecy g.call_based),(175,yjWy g.z64z),(176,ye0y g.call_tail)] [(2,[0]),(4,[1]),(9,[2]),(11,[3])] [] [] [] [] [] [] [] []
theorem ytsy (g:C_call_Parts):Same (ycXy (@ygjy g)) (abody (ywxy g) Tryz.f110 yEcy 4 [] [.asis,.asis] g.N):=by intro args; unfold ycXy; split; exact .inr fun R k=>(by kernel_rfl); exact .inl fun R k=>rfl
theorem ylvy [Fuel]:Ok 110 (ycXy (@call_Parts _)):=yaay std (.cons yzUy (.cons ytxy (.cons yyYy (.cons yuAy .nil)))) ⟨rfl,rfl,by kernel_rfl,rfl,rfl,rfl⟩ (ytsy ybay) (cuts0 (fun _=>rfl) (by kernel_rfl)) Tryz.func110 (by kernel_rfl) (by kernel_rfl)
abbrev ygJy:Type 1:=List UInt8→{R:Type}→(Bool→Option R)→Option R
structure C_call_Is where
 N:Nat
 call_Parts:yfqy
def yuny (g:C_call_Is) (a1:List UInt8) {R:Type} (k0:Bool→Option R):Option R :=
 (g.call_Parts a1 (fun r2 r3=>k0 r3))
noncomputable def yity [Fuel]:C_call_Is:=⟨NN,@call_Parts _⟩
noncomputable def call_Is [Fuel]:ygJy:=@yuny yity
def ydGy (g:ygJy):Spec A:=fun args=>match args with | [.d (.str a1)]=>fun k=>g a1 (fun z0=>k (.d (.bool z0)) [.undef]) | _=>fun _=>none
noncomputable def yJHy:Code:=(Tryz.f64.body).getD .skip
noncomputable def yCey (g:C_call_Is):Env A:=mkE [(110,ycXy g.call_Parts)] [(3,[0])] [] [] [] [] [] [] [] []
theorem yAny (g:C_call_Is):Same (ydGy (@yuny g)) (abody (yCey g) Tryz.f64 yJHy 1 [] [.asis] g.N):=by intro args; unfold ydGy; split; exact .inr fun R k=>(by kernel_rfl); exact .inl fun R k=>rfl
theorem ydEy [Fuel]:Ok 64 (ydGy (@call_Is _)):=yaay std (.cons ylvy .nil) ⟨rfl,rfl,by kernel_rfl,rfl,rfl,rfl⟩ (yAny yity) (cuts0 (fun _=>rfl) (by kernel_rfl)) Tryz.func64 (by kernel_rfl) (by kernel_rfl)
abbrev yaYy:Type 1:=List UInt8→List UInt8→{R:Type}→(Int→Option R)→Option R
def strings_Compare [Fuel]:yaYy:=@X_cmp
def yaBy (g:yaYy):Spec A:=yjvy g
theorem ya7y [Fuel]:Ok 70 (yaBy (@strings_Compare _)):=⟨ylky (yssy (Any.strings_Compare Tryz.lays106)),yoey,enters_of (fn:=Tryz.f70) Tryz.func70 (by kernel_rfl) (by kernel_rfl)⟩
theorem yc7y [Fuel]:OkD 70 (yaBy (@strings_Compare _)):=⟨ylky (yssy (Any.strings_Compare Tryz.lays106)),yoey,enters_of (fn:=Tryz.f70) Tryz.func70 (by kernel_rfl) (by kernel_rfl)⟩
abbrev ygXy:Type 1:=List Int→{R:Type}→(Int→Option R)→Option R
def z20z_L3 (g:Nat):Nat→Int→List Int→Int→Int→{R:Type}→(Int→Int→Option R)→(Int→Option R)→Option R
 | 0,_,_,_,_,_,_,_=>none
 | n + 1,v2,v3,v4,v5,_,e0,e1=>(bif (decide (v5 < v4)) then (get_ v3 v5 fun x7=>(bif (x7 != v2) then e0 x7 v2 else z20z_L3 g n v2 v3 v4 (w64 (v5 + 1)) e0 e1)) else e1 v2)
def z20z_ (g:Nat) (a1:List Int) {R:Type} (k0:Int→Option R):Option R :=
 (z20z_L3 g g 0 a1 (a1.length:Int) 0 (fun e8 e9=>k0 e8) (fun e10=>k0 e10))
noncomputable def z20z [Fuel]:ygXy:=@z20z_ NN
def ybCy (g:ygXy):Spec A:=fun args=>match args with | [.d (.sl 3 a1)]=>fun k=>g a1 (fun z0=>k (.d (.int .i64 z0)) [.undef]) | _=>fun _=>none
def ydDy:SSt:=mkSh 18 0 [(3,.int .i64),(6,.sl 3),(7,.int .i64),(8,.int .i64)] []
def ybHy (g:Nat) (n:Nat):LPT A:=fun ps=>match ps with | [.d (.int .i64 p1),.d (.sl 3 p2),.d (.int .i64 p3),.d (.int .i64 p4)]=>fun K=>z20z_L3 g n p1 p2 p3 p4 (fun z0 z1=>K .ret (mkSt 18 0 [(2,.d (.int .i64 z0)),(3,.d (.int .i64 z1))] [])) (fun z0=>K (.exit 0) (mkSt 18 0 [(3,.d (.int .i64 z0))] [])) | _=>fun _=>none
noncomputable def yr6y:Code:=(Tryz.f68.body).getD .skip
noncomputable def yrfy (g:Nat):Env A:=mkE [] [] [(3,⟨[3,6,7,8],[],[],[],[],[],[]⟩)] [(3,⟨[2,3],[],[],[],[],[],[]⟩)] [(3,yafy ydDy (ybHy g g))] [] [] [] [] []
theorem yI3y [Fuel]:yagy (yrfy NN).C:=ct_of (P:=Tryz.prog) (T:=T) .nil (by kernel_rfl)
noncomputable def yhdy:Code:=sub [1,1,0,1,0,0] yr6y
theorem yCoy (g:Nat) (n:Nat):yaly (yrfy g) g yhdy ydDy (ybHy g) n:=by intro ps; unfold ybHy; split; exact .inr fun R K=>(by kernel_rfl); exact .inl fun R K=>rfl
theorem yz7y [Fuel]:yaey (yrfy NN) NN yhdy:=yahy ydDy (ybHy NN) (by kernel_rfl) yI3y (cuts0 (fun _=>rfl) (by kernel_rfl)) (fun ps R K=>by unfold ybHy; split <;> (try unfold z20z_L3) <;> rfl) (yCoy NN)
theorem yJMy (g:Nat):Same (ybCy (@z20z_ g)) (abody (yrfy g) Tryz.f68 yr6y 0 [] [.asis] g):=by intro args; unfold ybCy; split; exact .inr fun R k=>(by kernel_rfl); exact .inl fun R k=>rfl
theorem ygdy [Fuel]:Ok 68 (ybCy (@z20z _)):=yaay std .nil ⟨rfl,rfl,by kernel_rfl,rfl,rfl,rfl⟩ (yJMy NN) (cutsL (fun _=>rfl) (.cons yz7y .nil) (by kernel_rfl)) Tryz.func68 (by kernel_rfl) (by kernel_rfl)
noncomputable def ynjy (g:Nat):Env A:=mkED [] [] [(3,⟨[3,6,7,8],[],[],[],[],[],[]⟩)] [(3,⟨[2,3],[],[],[],[],[],[]⟩)] [(3,yafy ydDy (ybHy g g))] [] [] [] [] []
theorem yFSy [Fuel]:yagy (ynjy NN).C:=ct_of (P:=Tryz.prog) (T:=TD) .nil (by kernel_rfl)
theorem yBqy (g:Nat) (n:Nat):yaly (ynjy g) g yhdy ydDy (ybHy g) n:=by intro ps; unfold ybHy; split; exact .inr fun R K=>(by kernel_rfl); exact .inl fun R K=>rfl
theorem yxLy [Fuel]:yaey (ynjy NN) NN yhdy:=yahy ydDy (ybHy NN) (by kernel_rfl) yFSy (cuts0 (fun _=>rfl) (by kernel_rfl)) (fun ps R K=>by unfold ybHy; split <;> (try unfold z20z_L3) <;> rfl) (yBqy NN)
theorem yEIy (g:Nat):Same (ybCy (@z20z_ g)) (abody (ynjy g) Tryz.f68 yr6y 0 [] [.asis] g):=by intro args; unfold ybCy; split; exact .inr fun R k=>(by kernel_rfl); exact .inl fun R k=>rfl
theorem yoNy [Fuel]:OkD 68 (ybCy (@z20z _)):=yaay stdD .nil ⟨rfl,rfl,by kernel_rfl,rfl,rfl,rfl⟩ (yEIy NN) (cutsL (fun _=>rfl) (.cons yxLy .nil) (by kernel_rfl)) Tryz.func68 (by kernel_rfl) (by kernel_rfl)
abbrev yxay:Type 1:=G_Spot→G_Spot→{R:Type}→(Int→Option R)→Option R
structure C_z18z where
 N:Nat
 z20z:ygXy
 z14z:ygLy
 strings_Compare:yaYy
def z18z_ (g:C_z18z) (a1 a2:G_Spot) {R:Type} (k0:Int→Option R):Option R :=
 (g.z14z a1.f_At a2.f_At (fun r3=>(g.z14z a1.f_Hertz a2.f_Hertz (fun r4=>(g.strings_Compare a1.f_Call a2.f_Call (fun r5=>(g.strings_Compare a1.f_By a2.f_By (fun r6=>(g.z20z [r3,r4,r5,r6] (fun r7=>k0 r7))))))))))
noncomputable def yphy [Fuel]:C_z18z:=⟨NN,@z20z _,@z14z _,@strings_Compare _⟩
noncomputable def z18z [Fuel]:yxay:=@z18z_ yphy
def yezy (g:yxay):Spec A:=fun args=>match args with | [.agg [.d (.int .i64 a1),.d (.int .i64 a2),.d (.str a3),.d (.str a4)],.agg [.d (.int .i64 a5),.d (.int .i64 a6),.d (.str a7),.d (.str a8)]]=>fun k=>g ⟨a1,a2,a3,a4⟩ ⟨a5,a6,a7,a8⟩ (fun z0=>k (.d (.int .i64 z0)) [.undef,.undef]) | _=>fun _=>none
noncomputable def yyry:Code:=(Tryz.f27.body).getD .skip
noncomputable def yLOy (g:C_z18z):Env A:=mkE [(68,ybCy g.z20z),(69,ybDy g.z14z),(70,yaBy g.strings_Compare)] [(2,[0]),(3,[1]),(25,[2])] [] [] [] [] [] [] [] []
theorem yGCy (g:C_z18z):Same (yezy (@z18z_ g)) (abody (yLOy g) Tryz.f27 yyry 3 [] [.asis] g.N):=by intro args; unfold yezy; split; exact .inr fun R k=>(by kernel_rfl); exact .inl fun R k=>rfl
theorem yzVy [Fuel]:Ok 27 (yezy (@z18z _)):=yaay std (.cons ygdy (.cons ygby (.cons ya7y .nil))) ⟨rfl,rfl,by kernel_rfl,rfl,rfl,rfl⟩ (yGCy yphy) (cuts0 (fun _=>rfl) (by kernel_rfl)) Tryz.func27 (by kernel_rfl) (by kernel_rfl)
noncomputable def yJiy (g:C_z18z):Env A:=mkED [(68,ybCy g.z20z),(69,ybDy g.z14z),(70,yaBy g.strings_Compare)] [(2,[0]),(3,[1]),(25,[2])] [] [] [] [] [] [] [] []
theorem yFsy (g:C_z18z):Same (yezy (@z18z_ g)) (abody (yJiy g) Tryz.f27 yyry 3 [] [.asis] g.N):=by intro args; unfold yezy; split; exact .inr fun R k=>(by kernel_rfl); exact .inl fun R k=>rfl
theorem ywFy [Fuel]:OkD 27 (yezy (@z18z _)):=yaay stdD (.cons yoNy (.cons ypcy (.cons yc7y .nil))) ⟨rfl,rfl,by kernel_rfl,rfl,rfl,rfl⟩ (yFsy yphy) (cuts0 (fun _=>rfl) (by kernel_rfl)) Tryz.func27 (by kernel_rfl) (by kernel_rfl)
abbrev ylTy:Type 1:=List G_Spot→{R:Type}→(Int→Option R)→Option R
structure C_z10z where
 N:Nat
 z18z:yxay
 z49z:yh4y
 z45z:ydNy
 call_Is:ygJy
def z10z_L4 (g:C_z10z):Nat→List G_Spot→List G_Spot→Int→Int→{R:Type}→(Int→Option R)→Option R→Option R
 | 0,_,_,_,_,_,_,_=>none
 | n + 1,v2,v3,v4,v5,_,e0,e1=>(bif (decide (v5 < v4)) then (get_ v3 v5 fun x13=>(g.z49z x13.f_At (fun r14=>(bif (!r14) then e0 1 else (g.z45z x13.f_Hertz 0 30000000000 (fun r15=>(bif r15 then e0 1 else (g.call_Is x13.f_Call (fun r16=>(bif (!r16) then e0 3 else (g.call_Is x13.f_By (fun r17=>(bif (!r17) then e0 3 else (bif (decide (v5 > 0)) then (get_ v2 (w64 (v5 - 1)) fun x18=>(g.z18z x18 x13 (fun r19=>(bif (decide (r19 ≥ 0)) then e0 7 else z10z_L4 g n v2 v3 v4 (w64 (v5 + 1)) e0 e1)))) else z10z_L4 g n v2 v3 v4 (w64 (v5 + 1)) e0 e1)))))))))))))) else e1)
def z10z_ (g:C_z10z) (a1:List G_Spot) {R:Type} (k0:Int→Option R):Option R :=
 (bif (decide ((a1.length:Int) > 2000)) then k0 2 else (z10z_L4 g g.N a1 a1 (a1.length:Int) 0 (fun e20=>k0 e20) (k0 0)))
noncomputable def ybBy [Fuel]:C_z10z:=⟨NN,@z18z _,@z49z _,@z45z _,@call_Is _⟩
noncomputable def z10z [Fuel]:ylTy:=@z10z_ ybBy
def yhGy (g:ylTy):Spec A:=fun args=>match args with | [.d (.sl 32 a1)]=>fun k=>g a1 (fun z0=>k (.d (.int .i64 z0)) [.undef]) | _=>fun _=>none
def ykfy:SSt:=mkSh 50 1 [(0,.sl 32),(8,.sl 32),(9,.int .i64),(10,.int .i64)] []
def yeGy (g:C_z10z) (n:Nat):LPT A:=fun ps=>match ps with | [.d (.sl 32 p1),.d (.sl 32 p2),.d (.int .i64 p3),.d (.int .i64 p4)]=>fun K=>z10z_L4 g n p1 p2 p3 p4 (fun z0=>K .ret (mkSt 50 1 [(2,.d (.int .i64 z0))] [])) (K (.exit 0) (mkSt 50 1 [] [])) | _=>fun _=>none
noncomputable def yz0y:Code:=(Tryz.f24.body).getD .skip
noncomputable def yqDy (g:C_z10z):Env A:=mkE [(27,yezy g.z18z),(62,yevy g.z49z),(63,ycvy g.z45z),(64,ydGy g.call_Is)] [(4,[0])] [(4,⟨[0,8,9,10],[],[],[],[],[],[]⟩)] [(4,⟨[2],[],[],[],[],[],[]⟩)] [(4,yafy ykfy (yeGy g g.N))] [] [] [] [] []
theorem yG5y [Fuel]:yagy (yqDy ybBy).C:=ct_of (P:=Tryz.prog) (T:=T) (.cons yzVy (.cons yhFy (.cons yc5y (.cons ydEy .nil)))) (by kernel_rfl)
noncomputable def ypky:Code:=sub [1,1,0,1,0,0] yz0y
theorem yBMy (g:C_z10z) (n:Nat):yaly (yqDy g) g.N ypky ykfy (yeGy g) n:=by intro ps; unfold yeGy; split; exact .inr fun R K=>(by kernel_rfl); exact .inl fun R K=>rfl
theorem yAdy [Fuel]:yaey (yqDy ybBy) NN ypky:=yahy ykfy (yeGy ybBy) (by kernel_rfl) yG5y (cuts0 (fun _=>rfl) (by kernel_rfl)) (fun ps R K=>by unfold yeGy; split <;> (try unfold z10z_L4) <;> rfl) (yBMy ybBy)
theorem yJOy (g:C_z10z):Same (yhGy (@z10z_ g)) (abody (yqDy g) Tryz.f24 yz0y 1 [] [.asis] g.N):=by intro args; unfold yhGy; split; exact .inr fun R k=>(by kernel_rfl); exact .inl fun R k=>rfl
theorem yhxy [Fuel]:Ok 24 (yhGy (@z10z _)):=yaay std (.cons yzVy (.cons yhFy (.cons yc5y (.cons ydEy .nil)))) ⟨rfl,rfl,by kernel_rfl,rfl,rfl,rfl⟩ (yJOy ybBy) (cutsL (fun _=>rfl) (.cons yAdy .nil) (by kernel_rfl)) Tryz.func24 (by kernel_rfl) (by kernel_rfl)
abbrev ytOy:Type 1:=Int→{R:Type}→(List G_Spot→Option R)→Option R
def z72z [Fuel]:ytOy:=@ygIy G_Spot 48
def yjOy (g:ytOy):Spec A:=fun args=>match args with | [.d .nsl,.d (.int .i64 x1)]=>fun k=>g x1 (fun z=>k (.arr 32 z) [.undef,.undef]) | _=>fun _=>none
theorem yyGy [Fuel] (xs:Int) (R:Type) (k:IV A→List (IV A)→Option R):yjOy (@z72z _) [.d .nsl,.d (.int .i64 xs)] k = ygIy (α:=A 32) 48 xs (fun z=>k (.arr 32 z) [.undef,.undef]):=by kernel_rfl
theorem yy8y [Fuel] (args:List (IV A)) (R:Type) (k:IV A→List (IV A)→Option R) (h:∀ xs:Int,args ≠ [.d .nsl,.d (.int .i64 xs)]):yjOy (@z72z _) args k = none:=by unfold yjOy; split; exact absurd rfl (h _); rfl
theorem yzAy [Fuel]:Ok 65 (yjOy (@z72z _)):=⟨yHDy (yAyy rfl (tyOk Tryz.prog) (e:=32) (size:=4) (bytes:=48) (ty:=32) (by kernel_rfl) (fun w=>yLry Tryz.grow65 w) (fun n w hn hb hm=>yKoy Tryz.grow65 Tryz.ti32 Tryz.zv32 (by kernel_rfl) (by kernel_rfl) 4 48 (by kernel_rfl) (by kernel_rfl) (by decide) (by kernel_rfl) n w hn hb hm)) yyGy yy8y,yJWy yyGy yy8y,enters_of (fn:=Tryz.f65) Tryz.func65 (by kernel_rfl) (by kernel_rfl)⟩
end Go.Am
