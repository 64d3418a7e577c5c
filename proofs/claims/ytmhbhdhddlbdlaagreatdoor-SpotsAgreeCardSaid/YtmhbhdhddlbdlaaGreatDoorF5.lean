/- The functions of the program as Lean functions, each shown to be what the code computes, part 5. No condition: lemmas for the claim. -/
import Derived.Test.YtmhbhdhddlbdlaaGreatDoorF0
import Derived.Test.YtmhbhdhddlbdlaaGreatDoorFSh
import Derived.Test.YtmhbhdhddlbdlaaGreatDoorF2
import Derived.Test.YtmhbhdhddlbdlaaGreatDoorF3
import Derived.Test.YtmhbhdhddlbdlaaGreatDoorF4
set_option linter.unusedVariables false
set_option maxRecDepth 100000
namespace Go.Am
open Go Go.Proofs
abbrev T_z7z:Type 1:=List (List G_Spot)→{R:Type}→(List G_Spot→Option R)→Option R
structure C_z7z where
 N:Nat
 z72z:ytOy
def z7z_L3 (g:C_z7z):Nat→List (List G_Spot)→Int→List (List G_Spot)→Int→Int→{R:Type}→(List (List G_Spot)→Int→Option R)→Option R
 | 0,_,_,_,_,_,_,_=>none
 | n + 1,v2,v3,v4,v5,v6,_,e0=>(bif (decide (v6 < v5)) then (get_ v4 v6 fun x8=>(bif (decide ((w64 (v3 + (x8.length:Int))) < 0)) then none else z7z_L3 g n v2 (w64 (v3 + (x8.length:Int))) v4 v5 (w64 (v6 + 1)) e0)) else e0 v2 v3)
def z7z_L11 (g:C_z7z):Nat→List (List G_Spot)→Int→Int→List G_Spot→{R:Type}→(List G_Spot→Option R)→Option R
 | 0,_,_,_,_,_,_=>none
 | n + 1,v12,v13,v14,v15,_,e0=>(bif (decide (v14 < v13)) then (get_ v12 v14 fun x17=>(bif (decide ((v15.length + x17.length) * 48≤yaiy)) then z7z_L11 g n v12 v13 (w64 (v14 + 1)) (v15 ++ x17) e0 else none)) else e0 v15)
def z7z_ (g:C_z7z) (a1:List (List G_Spot)) {R:Type} (k0:List G_Spot→Option R):Option R :=
 (z7z_L3 g g.N a1 0 a1 (a1.length:Int) 0 (fun e9 e10=>(g.z72z e10 (fun r11=>(z7z_L11 g g.N e9 (e9.length:Int) 0 r11 (fun e18=>k0 e18))))))
noncomputable def I_z7z [Fuel]:C_z7z:=⟨NN,@z72z _⟩
noncomputable def z7z [Fuel]:T_z7z:=@z7z_ I_z7z
def yqky (g:T_z7z):Spec A:=fun args=>match args with | [.d (.sl 26 a1)]=>fun k=>g a1 (fun z0=>k (.arr 32 z0) [.undef]) | _=>fun _=>none
def yl7y:SSt:=mkSh 36 3 [(0,.sl 26),(3,.int .i64),(9,.sl 26),(10,.int .i64),(11,.int .i64)] []
def yg1y (g:C_z7z) (n:Nat):LPT A:=fun ps=>match ps with | [.d (.sl 26 p1),.d (.int .i64 p2),.d (.sl 26 p3),.d (.int .i64 p4),.d (.int .i64 p5)]=>fun K=>z7z_L3 g n p1 p2 p3 p4 p5 (fun z0 z1=>K (.exit 0) (mkSt 36 3 [(0,.d (.sl 26 z0)),(3,.d (.int .i64 z1))] [])) | _=>fun _=>none
def ykty:SSt:=mkSh 36 3 [(6,.own 32 1),(25,.sl 26),(26,.int .i64),(27,.int .i64)] [(1,.row 32)]
def yeKy (g:C_z7z) (n:Nat):LPT A:=fun ps=>match ps with | [.d (.sl 26 p1),.d (.int .i64 p2),.d (.int .i64 p3),.d (.sl 32 p4)]=>fun K=>z7z_L11 g n p1 p2 p3 p4 (fun z0=>K (.exit 2) (mkSt 36 3 [(6,.own 32 1)] [(1,some (.row 32 z0))])) | _=>fun _=>none
noncomputable def yrJy:Code:=(Tryz.f25.body).getD .skip
noncomputable def E_z7z (g:C_z7z):Env A:=mkE [(65,yjOy g.z72z)] [(24,[0]),(33,[2])] [(3,⟨[0,3,9,10,11],[],[],[],[],[],[]⟩),(11,⟨[6,25,26,27],[(6,32,1)],[],[],[],[],[]⟩)] [(3,⟨[0,3],[],[],[],[],[],[]⟩),(11,⟨[6],[],[1],[],[],[],[]⟩)] [(3,yafy yl7y (yg1y g g.N)),(11,yafy ykty (yeKy g g.N))] [] [] [] [(65,0)] []
theorem yCly [Fuel]:yagy (E_z7z I_z7z).C:=ct_of (P:=Tryz.prog) (T:=T) (.cons yzAy .nil) (by kernel_rfl)
noncomputable def ysZy:Code:=sub [1,1,0,1,0,0] yrJy
theorem yEDy (g:C_z7z) (n:Nat):yaly (E_z7z g) g.N ysZy yl7y (yg1y g) n:=by intro ps; unfold yg1y; split; exact .inr fun R K=>(by kernel_rfl); exact .inl fun R K=>rfl
theorem yBUy [Fuel]:yaey (E_z7z I_z7z) NN ysZy:=yahy yl7y (yg1y I_z7z) (by kernel_rfl) yCly (cuts0 (fun _=>rfl) (by kernel_rfl)) (fun ps R K=>by unfold yg1y; split <;> (try unfold z7z_L3) <;> rfl) (yEDy I_z7z)
noncomputable def yqvy:Code:=sub [1,1,1,1,0,1,0,0] yrJy
theorem yBHy (g:C_z7z) (n:Nat):yaly (E_z7z g) g.N yqvy ykty (yeKy g) n:=by intro ps; unfold yeKy; split; exact .inr fun R K=>(by kernel_rfl); exact .inl fun R K=>rfl
theorem yAMy [Fuel]:yaey (E_z7z I_z7z) NN yqvy:=yahy ykty (yeKy I_z7z) (by kernel_rfl) yCly (cuts0 (fun _=>rfl) (by kernel_rfl)) (fun ps R K=>by unfold yeKy; split <;> (try unfold z7z_L11) <;> rfl) (yBHy I_z7z)
theorem yKuy (g:C_z7z):Same (yqky (@z7z_ g)) (abody (E_z7z g) Tryz.f25 yrJy 3 [] [.arr 32] g.N):=by intro args; unfold yqky; split; exact .inr fun R k=>(by kernel_rfl); exact .inl fun R k=>rfl
theorem yCiy [Fuel]:Ok 25 (yqky (@z7z _)):=yaay std (.cons yzAy .nil) ⟨rfl,rfl,by kernel_rfl,rfl,rfl,rfl⟩ (yKuy I_z7z) (cutsL (fun _=>rfl) (.cons yBUy (.cons yAMy .nil)) (by kernel_rfl)) Tryz.func25 (by kernel_rfl) (by kernel_rfl)
abbrev ywoy:Type 1:=List G_Spot→{R:Type}→(List G_Spot→Option R)→Option R
noncomputable def z30z [Fuel]:ywoy:=@yboy G_Spot (@z18z _)
def yj1y (g:ywoy):Spec A:=fun args=>match args with | [.arr 32 a1,.fn 27 []]=>fun k=>g a1 (fun z=>k (.tup []) [.arr 32 z,.fn 27 []]) | _=>fun _=>none
theorem yyty [Fuel] (xs:List (A 32)) (R:Type) (k:IV A→List (IV A)→Option R):yj1y (@z30z _) [.arr 32 xs,.fn 27 []] k = yboy (α:=A 32) (@z18z _) xs (fun z=>k (.tup []) [.arr 32 z,.fn 27 []]):=by kernel_rfl
theorem yzby [Fuel] (args:List (IV A)) (R:Type) (k:IV A→List (IV A)→Option R) (h:∀ xs:List (A 32),args ≠ [.arr 32 xs,.fn 27 []]):yj1y (@z30z _) args k = none:=by unfold yj1y; split; exact absurd rfl (h _); rfl
theorem yF0y [Fuel] (x y:A 32) (R:Type) (k:Int→Option R):yjXy T (yezy (@z18z _)) 32 x y k = @z18z _ x y R k:=by kernel_rfl
theorem yHUy (x:G_Spot):(ynAy x).all scal = true:=rfl
theorem yzWy [Fuel]:Ok 26 (yj1y (@z30z _)):=⟨ygfy (tyOk Tryz.prog) (e:=32) Tryz.sortf26 Tryz.isAgg32 Tryz.sizeOf32 (fun x d hd=>List.all_eq_true.1 (yHUy x) d hd) yF0y ywFy.fs ywFy.en yyty yzby,ykgy (e:=32) yyty yzby,enters_of (fn:=Tryz.f26) Tryz.func26 (by kernel_rfl) (by kernel_rfl)⟩
abbrev yidy:Type 1:=List G_Spot→List G_Spot→{R:Type}→(List G_Spot→Int→Option R)→Option R
structure C_band_Merge where
 N:Nat
 z10z:ylTy
 z7z:T_z7z
 z30z:ywoy
 z9z:T_z9z
def ycey (g:C_band_Merge):Nat→List G_Spot→List G_Spot→Int→Int→List (List G_Spot)→{R:Type}→(List G_Spot→List G_Spot→Int→Option R)→(List G_Spot→List G_Spot→Option R)→Option R
 | 0,_,_,_,_,_,_,_,_=>none
 | n + 1,v3,v4,v5,v6,v7,_,e0,e1=>(bif (decide (v6 < v5)) then (inr v7 v6 (at_ v7 v6 fun x10=>(g.z10z x10 (fun r11=>(bif (r11 != 0) then e0 v3 v4 r11 else ycey g n v3 v4 v5 (w64 (v6 + 1)) v7 e0 e1))))) else e1 v3 v4)
def yiUy (g:C_band_Merge) (a1 a2:List G_Spot) {R:Type} (k0:List G_Spot→Int→Option R):Option R :=
 (ycey g g.N a1 a2 ([a1,a2].length:Int) 0 [a1,a2] (fun e12 e13 e14=>k0 [] e14) (fun e15 e16=>(g.z7z [e15,e16] (fun r17=>(g.z30z r17 (fun r18=>(g.z9z r18 (fun r19=>(bif (decide ((r19.length:Int) > 2000)) then k0 [] 2 else k0 r19 0)))))))))
noncomputable def yaQy [Fuel]:C_band_Merge:=⟨NN,@z10z _,@z7z _,@z30z _,@z9z _⟩
noncomputable def band_Merge [Fuel]:yidy:=@yiUy yaQy
def yd9y (g:yidy):Spec A:=fun args=>match args with | [.d (.sl 32 a1),.d (.sl 32 a2)]=>fun k=>g a1 a2 (fun z0 z1=>k (.tup [.arr 32 z0,.d (.int .i64 z1)]) [.undef,.undef]) | _=>fun _=>none
def yefy:SSt:=mkSh 36 4 [(0,.sl 32),(1,.sl 32),(12,.own 26 0),(13,.int .i64),(14,.int .i64)] [(0,.row 26)]
def ybXy (g:C_band_Merge) (n:Nat):LPT A:=fun ps=>match ps with | [.d (.sl 32 p1),.d (.sl 32 p2),.d (.int .i64 p3),.d (.int .i64 p4),.d (.sl 26 p5)]=>fun K=>ycey g n p1 p2 p3 p4 p5 (fun z0 z1 z2=>K .ret (mkSt 36 4 [(0,.d (.sl 32 z0)),(1,.d (.sl 32 z1)),(4,.d .nsl),(5,.d (.int .i64 z2))] [])) (fun z0 z1=>K (.exit 0) (mkSt 36 4 [(0,.d (.sl 32 z0)),(1,.d (.sl 32 z1))] [])) | _=>fun _=>none
noncomputable def yCyy:Code:=(Tryz.f8.body).getD .skip
noncomputable def yfoy (g:C_band_Merge):Env A:=mkE [(24,yhGy g.z10z),(25,yqky g.z7z),(26,yj1y g.z30z),(28,ylKy g.z9z)] [(12,[0]),(26,[1]),(27,[2]),(31,[3])] [(2,⟨[0,1,12,13,14],[],[0],[],[],[],[]⟩)] [(2,⟨[0,1,4,5],[],[],[],[],[],[]⟩)] [(2,yafy yefy (ybXy g g.N))] [] [] [] [(26,0),(28,0)] []
theorem ytAy [Fuel]:yagy (yfoy yaQy).C:=ct_of (P:=Tryz.prog) (T:=T) (.cons yhxy (.cons yCiy (.cons yzWy (.cons ypVy .nil)))) (by kernel_rfl)
noncomputable def yily:Code:=sub [1,0,1,0,0] yCyy
theorem yqwy (g:C_band_Merge) (n:Nat):yaly (yfoy g) g.N yily yefy (ybXy g) n:=by intro ps; unfold ybXy; split; exact .inr fun R K=>(by kernel_rfl); exact .inl fun R K=>rfl
theorem ypey [Fuel]:yaey (yfoy yaQy) NN yily:=yahy yefy (ybXy yaQy) (by kernel_rfl) ytAy (cuts0 (fun _=>rfl) (by kernel_rfl)) (fun ps R K=>by unfold ybXy; split <;> (try unfold ycey) <;> rfl) (yqwy yaQy)
theorem ytdy (g:C_band_Merge):Same (yd9y (@yiUy g)) (abody (yfoy g) Tryz.f8 yCyy 4 [] [.arr 32,.asis] g.N):=by intro args; unfold yd9y; split; exact .inr fun R k=>(by kernel_rfl); exact .inl fun R k=>rfl
theorem ytky [Fuel]:Ok 8 (yd9y (@band_Merge _)):=yaay std (.cons yhxy (.cons yCiy (.cons yzWy (.cons ypVy .nil)))) ⟨rfl,rfl,by kernel_rfl,rfl,rfl,rfl⟩ (ytdy yaQy) (cutsL (fun _=>rfl) (.cons ypey .nil) (by kernel_rfl)) Tryz.func8 (by kernel_rfl) (by kernel_rfl)
abbrev yfYy:Type 1:=Int→{R:Type}→(List UInt8→Option R)→Option R
def strconv_Itoa [Fuel]:yfYy:=@ylUy
def yiEy (g:yfYy):Spec A:=yhYy g
theorem yiry [Fuel]:Ok 31 (yiEy (@strconv_Itoa _)):=⟨yrAy (fun w h=>h) (fun n w h0 h1 ht=>Any.strconv_Itoa Tryz.laysM171 n h0 h1 w ht),ywMy,enters_of (fn:=Tryz.f31) Tryz.func31 (by kernel_rfl) (by kernel_rfl)⟩
abbrev yf9y:Type 1:=List (List UInt8)→List UInt8→{R:Type}→(List UInt8→Option R)→Option R
def strings_Join [Fuel]:yf9y:=@yjzy (List UInt8) (fun x=>x)
def ycgy (g:yf9y):Spec A:=fun args=>match args with | [.d (.sl 9 a1),.d (.str a2)]=>fun k=>g a1 a2 (fun z=>k (.d (.str z)) [.undef,.undef]) | _=>fun _=>none
theorem yiMy [Fuel] (xs:List (A 9)) (sep:List UInt8) (R:Type) (k:IV A→List (IV A)→Option R):ycgy (@strings_Join _) [.d (.sl 9 xs),.d (.str sep)] k = yjzy (α:=A 9) (fun (x:List UInt8)=>x) xs sep (fun z=>k (.d (.str z)) [.undef,.undef]):=by kernel_rfl
theorem yiqy [Fuel] (args:List (IV A)) (R:Type) (k:IV A→List (IV A)→Option R) (h:∀ (xs:List (A 9)) (sep:List UInt8),args ≠ [.d (.sl 9 xs),.d (.str sep)]):ycgy (@strings_Join _) args k = none:=by unfold ycgy; split; exact absurd rfl (h _ _); rfl
theorem ypuy [Fuel]:Ok 72 (ycgy (@strings_Join _)):=⟨yIUy rfl (e:=9) (fun (x:List UInt8)=>x) (fun _=>rfl) rfl (fun a c sep w=>Go.Proofs.Any.strings_Join_none Tryz.lays156 Tryz.bx156 a c sep w) (fun bk o c xs sep w h1 h2 h3 h4 h5=>Go.Proofs.Any.strings_Join Tryz.lays156 Tryz.bx156 bk o c xs sep w h1 h2 h3 h4 h5) yiMy yiqy,yGry (e:=9) (fun (x:List UInt8)=>x) yiMy yiqy,enters_of (fn:=Tryz.f72) Tryz.func72 (by kernel_rfl) (by kernel_rfl)⟩
abbrev ykqy:Type 1:=List (List UInt8)→{R:Type}→(List UInt8→Option R)→Option R
structure C_kit_Join where
 N:Nat
 strings_Join:yf9y
def yipy (g:C_kit_Join) (a1:List (List UInt8)) {R:Type} (k0:List UInt8→Option R):Option R :=
 (g.strings_Join a1 [32] (fun r2=>(bif (strOk r2 [10]) then k0 (r2 ++ [10]) else none)))
noncomputable def yhcy [Fuel]:C_kit_Join:=⟨NN,@strings_Join _⟩
noncomputable def kit_Join [Fuel]:ykqy:=@yipy yhcy
def ygsy (g:ykqy):Spec A:=fun args=>match args with | [.d (.sl 9 a1)]=>fun k=>g a1 (fun z0=>k (.d (.str z0)) [.undef]) | _=>fun _=>none
noncomputable def yHFy:Code:=(Tryz.f30.body).getD .skip
noncomputable def yAly (g:C_kit_Join):Env A:=mkE [(72,ycgy g.strings_Join)] [] [] [] [] [] [] [] [] []
theorem yxwy (g:C_kit_Join):Same (ygsy (@yipy g)) (abody (yAly g) Tryz.f30 yHFy 0 [] [.asis] g.N):=by intro args; unfold ygsy; split; exact .inr fun R k=>(by kernel_rfl); exact .inl fun R k=>rfl
theorem yogy [Fuel]:Ok 30 (ygsy (@kit_Join _)):=yaay std (.cons ypuy .nil) ⟨rfl,rfl,by kernel_rfl,rfl,rfl,rfl⟩ (yxwy yhcy) (cuts0 (fun _=>rfl) (by kernel_rfl)) Tryz.func30 (by kernel_rfl) (by kernel_rfl)
abbrev yiZy:Type 1:=List G_Spot→{R:Type}→(List UInt8→Int→Option R)→Option R
structure C_band_Text where
 N:Nat
 z10z:ylTy
 kit_Join:ykqy
 strconv_Itoa:yfYy
def ybYy (g:C_band_Text):Nat→List G_Spot→Int→Int→List UInt8→{R:Type}→(List UInt8→Option R)→Option R
 | 0,_,_,_,_,_,_=>none
 | n + 1,v3,v4,v5,v6,_,e0=>(bif (decide (v5 < v4)) then (get_ v3 v5 fun x11=>(g.strconv_Itoa x11.f_At (fun r12=>(g.strconv_Itoa x11.f_Hertz (fun r13=>(g.kit_Join [r12,r13,x11.f_Call,x11.f_By] (fun r14=>(bif (decide (v6.length + r14.length≤140737488355328)) then ybYy g n v3 v4 (w64 (v5 + 1)) (v6 ++ r14) e0 else none)))))))) else e0 v6)
def yhly (g:C_band_Text) (a1:List G_Spot) {R:Type} (k0:List UInt8→Int→Option R):Option R :=
 (g.z10z a1 (fun r2=>(bif (r2 != 0) then k0 [] r2 else (ybYy g g.N a1 (a1.length:Int) 0 [] (fun e15=>(bif (decide ((e15.length:Int) > 200000)) then k0 [] 2 else k0 e15 0))))))
noncomputable def ybby [Fuel]:C_band_Text:=⟨NN,@z10z _,@kit_Join _,@strconv_Itoa _⟩
noncomputable def band_Text [Fuel]:yiZy:=@yhly ybby
def yeVy (g:yiZy):Spec A:=fun args=>match args with | [.d (.sl 32 a1)]=>fun k=>g a1 (fun z0 z1=>k (.tup [.d (.str z0),.d (.int .i64 z1)]) [.undef]) | _=>fun _=>none
def yfuy:SSt:=mkSh 36 3 [(5,.ptr 0 0),(13,.sl 32),(14,.int .i64),(15,.int .i64)] [(0,.bld)]
def ycly (g:C_band_Text) (n:Nat):LPT A:=fun ps=>match ps with | [.d (.sl 32 p1),.d (.int .i64 p2),.d (.int .i64 p3),.d (.str p4)]=>fun K=>ybYy g n p1 p2 p3 p4 (fun z0=>K (.exit 0) (mkSt 36 3 [(5,.ptr 0 0)] [(0,some (.bld z0))])) | _=>fun _=>none
noncomputable def yCGy:Code:=(Tryz.f9.body).getD .skip
noncomputable def ygwy (g:C_band_Text):Env A:=mkE [(24,yhGy g.z10z),(30,ygsy g.kit_Join),(31,yiEy g.strconv_Itoa)] [(5,[0]),(7,[1]),(29,[2])] [(6,⟨[5,13,14,15],[],[0],[],[],[],[]⟩)] [(6,⟨[5],[],[0],[],[],[],[]⟩)] [(6,yafy yfuy (ycly g g.N))] [] [] [] [] []
theorem yuby [Fuel]:yagy (ygwy ybby).C:=ct_of (P:=Tryz.prog) (T:=T) (.cons yhxy (.cons yogy (.cons yiry .nil))) (by kernel_rfl)
noncomputable def yiwy:Code:=sub [1,1,1,0,1,0,0] yCGy
theorem yshy (g:C_band_Text) (n:Nat):yaly (ygwy g) g.N yiwy yfuy (ycly g) n:=by intro ps; unfold ycly; split; exact .inr fun R K=>(by kernel_rfl); exact .inl fun R K=>rfl
theorem yrty [Fuel]:yaey (ygwy ybby) NN yiwy:=yahy yfuy (ycly ybby) (by kernel_rfl) yuby (cuts0 (fun _=>rfl) (by kernel_rfl)) (fun ps R K=>by unfold ycly; split <;> (try unfold ybYy) <;> rfl) (yshy ybby)
theorem ytKy (g:C_band_Text):Same (yeVy (@yhly g)) (abody (ygwy g) Tryz.f9 yCGy 3 [] [.asis,.asis] g.N):=by intro args; unfold yeVy; split; exact .inr fun R k=>(by kernel_rfl); exact .inl fun R k=>rfl
theorem yuDy [Fuel]:Ok 9 (yeVy (@band_Text _)):=yaay std (.cons yhxy (.cons yogy (.cons yiry .nil))) ⟨rfl,rfl,by kernel_rfl,rfl,rfl,rfl⟩ (ytKy ybby) (cutsL (fun _=>rfl) (.cons yrty .nil) (by kernel_rfl)) Tryz.func9 (by kernel_rfl) (by kernel_rfl)
abbrev yuFy:Type 1:=List UInt8→List UInt8→{R:Type}→(Bool→Option R)→Option R
def z67z_ (g:Nat) (a1 a2:List UInt8) {R:Type} (k0:Bool→Option R):Option R :=
 (bif (decide ((a1.length:Int) ≥ (a2.length:Int))) then (bif (decide (0≤(w64 ((a1.length:Int) - (a2.length:Int)))) && decide ((w64 ((a1.length:Int) - (a2.length:Int)))≤(a1.length:Int))) then k0 ((a1.drop ((w64 ((a1.length:Int) - (a2.length:Int))):Int).toNat) == a2) else none) else k0 false)
noncomputable def z67z [Fuel]:yuFy:=@z67z_ NN
def ym7y (g:yuFy):Spec A:=fun args=>match args with | [.d (.str a1),.d (.str a2)]=>fun k=>g a1 a2 (fun z0=>k (.d (.bool z0)) [.undef,.undef]) | _=>fun _=>none
noncomputable def yEZy:Code:=(Tryz.f188.body).getD .skip
noncomputable def yLxy (g:Nat):Env A:=mkE [] [] [] [] [] [] [] [] [] []
theorem yJzy (g:Nat):Same (ym7y (@z67z_ g)) (abody (yLxy g) Tryz.f188 yEZy 0 [] [.asis] g):=by intro args; unfold ym7y; split; exact .inr fun R k=>(by kernel_rfl); exact .inl fun R k=>rfl
theorem yIxy [Fuel]:Ok 188 (ym7y (@z67z _)):=yaay std .nil ⟨rfl,rfl,by kernel_rfl,rfl,rfl,rfl⟩ (yJzy NN) (cuts0 (fun _=>rfl) (by kernel_rfl)) Tryz.func188 (by kernel_rfl) (by kernel_rfl)
abbrev yuMy:Type 1:=List UInt8→List UInt8→{R:Type}→(List UInt8→Bool→Option R)→Option R
structure C_z55z where
 N:Nat
 z67z:yuFy
def z55z_ (g:C_z55z) (a1 a2:List UInt8) {R:Type} (k0:List UInt8→Bool→Option R):Option R :=
 (g.z67z a1 a2 (fun r3=>(bif (!r3) then k0 a1 false else (bif (decide (0≤(w64 ((a1.length:Int) - (a2.length:Int)))) && decide ((w64 ((a1.length:Int) - (a2.length:Int)))≤(a1.length:Int))) then k0 (a1.take ((w64 ((a1.length:Int) - (a2.length:Int))):Int).toNat) true else none))))
noncomputable def ypzy [Fuel]:C_z55z:=⟨NN,@z67z _⟩
noncomputable def z55z [Fuel]:yuMy:=@z55z_ ypzy
def ynhy (g:yuMy):Spec A:=fun args=>match args with | [.d (.str a1),.d (.str a2)]=>fun k=>g a1 a2 (fun z0 z1=>k (.tup [.d (.str z0),.d (.bool z1)]) [.undef,.undef]) | _=>fun _=>none
noncomputable def yFBy:Code:=(Tryz.f126.body).getD .skip
noncomputable def yLCy (g:C_z55z):Env A:=mkE [(188,ym7y g.z67z)] [] [] [] [] [] [] [] [] []
theorem yG0y (g:C_z55z):Same (ynhy (@z55z_ g)) (abody (yLCy g) Tryz.f126 yFBy 0 [] [.asis,.asis] g.N):=by intro args; unfold ynhy; split; exact .inr fun R k=>(by kernel_rfl); exact .inl fun R k=>rfl
theorem yH7y [Fuel]:Ok 126 (ynhy (@z55z _)):=yaay std (.cons yIxy .nil) ⟨rfl,rfl,by kernel_rfl,rfl,rfl,rfl⟩ (yG0y ypzy) (cuts0 (fun _=>rfl) (by kernel_rfl)) Tryz.func126 (by kernel_rfl) (by kernel_rfl)
abbrev yv2y:Type 1:=List UInt8→List UInt8→{R:Type}→(List UInt8→Bool→Option R)→Option R
structure C_z65z where
 N:Nat
 z55z:yuMy
def z65z_ (g:C_z65z) (a1 a2:List UInt8) {R:Type} (k0:List UInt8→Bool→Option R):Option R :=
 (g.z55z a1 a2 (fun r3 r4=>k0 r3 r4))
noncomputable def yCIy [Fuel]:C_z65z:=⟨NN,@z55z _⟩
noncomputable def z65z [Fuel]:yv2y:=@z65z_ yCIy
def ynBy (g:yv2y):Spec A:=fun args=>match args with | [.d (.str a1),.d (.str a2)]=>fun k=>g a1 a2 (fun z0 z1=>k (.tup [.d (.str z0),.d (.bool z1)]) [.undef,.undef]) | _=>fun _=>none
noncomputable def yHJy:Code:=(Tryz.f74.body).getD .skip
noncomputable def yKry (g:C_z65z):Env A:=mkE [(126,ynhy g.z55z)] [] [] [] [] [] [] [] [] []
theorem yGpy (g:C_z65z):Same (ynBy (@z65z_ g)) (abody (yKry g) Tryz.f74 yHJy 0 [] [.asis,.asis] g.N):=by intro args; unfold ynBy; split; exact .inr fun R k=>(by kernel_rfl); exact .inl fun R k=>rfl
theorem yHPy [Fuel]:Ok 74 (ynBy (@z65z _)):=yaay std (.cons yH7y .nil) ⟨rfl,rfl,by kernel_rfl,rfl,rfl,rfl⟩ (yGpy yCIy) (cuts0 (fun _=>rfl) (by kernel_rfl)) Tryz.func74 (by kernel_rfl) (by kernel_rfl)
abbrev yeTy:Type 1:=List UInt8→List UInt8→{R:Type}→(Int→Option R)→Option R
def strings_Count [Fuel]:yeTy:=@ypDy
def yijy (g:yeTy):Spec A:=yihy g
theorem yiny [Fuel]:Ok 190 (yijy (@strings_Count _)):=⟨yrMy (yAWy (Any.strings_Count_one Tryz.lays138)),yv1y,enters_of (fn:=Tryz.f190) Tryz.func190 (by kernel_rfl) (by kernel_rfl)⟩
abbrev yuTy:Type 1:=List UInt8→List UInt8→Int→Int→{R:Type}→(List (List UInt8)→Option R)→Option R
structure C_z33z where
 N:Nat
 strings_Count:yeTy
 strings_Index:ydcy
def z33z_L11 (g:C_z33z):Nat→List UInt8→List UInt8→Int→Int→Int→List (List UInt8)→{R:Type}→(List UInt8→Int→List (List UInt8)→Option R)→Option R
 | 0,_,_,_,_,_,_,_,_=>none
 | n + 1,v6,v7,v8,v9,v10,v11,_,e0=>(bif (decide (v10 < v9)) then (g.strings_Index v6 v7 (fun r14=>(bif (decide (r14 < 0)) then e0 v6 v10 v11 else (bif (decide (0≤(w64 (r14 + v8))) && decide ((w64 (r14 + v8))≤(v6.length:Int))) then (inr v11 v10 (at_ v11 v10 fun x15=>(bif (decide (0≤(w64 (r14 + (v7.length:Int)))) && decide ((w64 (r14 + (v7.length:Int)))≤(v6.length:Int))) then z33z_L11 g n (v6.drop ((w64 (r14 + (v7.length:Int))):Int).toNat) v7 v8 v9 (w64 (v10 + 1)) (set_ v11 v10 (v6.take ((w64 (r14 + v8)):Int).toNat)) e0 else none))) else none)))) else e0 v6 v10 v11)
def z33z_ (g:C_z33z) (a1 a2:List UInt8) (a3 a4:Int) {R:Type} (k0:List (List UInt8)→Option R):Option R :=
 (bif (a4 == 0) then k0 [] else (bif (a2 == []) then none else (bif (decide (a4 < 0)) then (g.strings_Count a1 a2 (fun r5=>(bif (decide (0≤(if (w64 ((a1.length:Int) + 1)) < (w64 (r5 + 1)) then (w64 ((a1.length:Int) + 1)) else (w64 (r5 + 1)))) && (decide ((if (w64 ((a1.length:Int) + 1)) < (w64 (r5 + 1)) then (w64 ((a1.length:Int) + 1)) else (w64 (r5 + 1)))≤(if (w64 ((a1.length:Int) + 1)) < (w64 (r5 + 1)) then (w64 ((a1.length:Int) + 1)) else (w64 (r5 + 1)))) && decide ((if (w64 ((a1.length:Int) + 1)) < (w64 (r5 + 1)) then (w64 ((a1.length:Int) + 1)) else (w64 (r5 + 1))) * (16:Nat)≤140737488355328))) then (z33z_L11 g g.N a1 a2 a3 (w64 ((if (w64 ((a1.length:Int) + 1)) < (w64 (r5 + 1)) then (w64 ((a1.length:Int) + 1)) else (w64 (r5 + 1))) - 1)) 0 (List.replicate ((if (w64 ((a1.length:Int) + 1)) < (w64 (r5 + 1)) then (w64 ((a1.length:Int) + 1)) else (w64 (r5 + 1))):Int).toNat []) (fun e16 e17 e18=>(inr e18 e17 (at_ e18 e17 fun x19=>(bif (decide (0≤(w64 (e17 + 1))) && decide ((w64 (e17 + 1))≤((set_ e18 e17 e16).length:Int))) then k0 ((set_ e18 e17 e16).take ((w64 (e17 + 1)):Int).toNat) else none))))) else none))) else (bif (decide (0≤(if (w64 ((a1.length:Int) + 1)) < a4 then (w64 ((a1.length:Int) + 1)) else a4)) && (decide ((if (w64 ((a1.length:Int) + 1)) < a4 then (w64 ((a1.length:Int) + 1)) else a4)≤(if (w64 ((a1.length:Int) + 1)) < a4 then (w64 ((a1.length:Int) + 1)) else a4)) && decide ((if (w64 ((a1.length:Int) + 1)) < a4 then (w64 ((a1.length:Int) + 1)) else a4) * (16:Nat)≤140737488355328))) then (z33z_L11 g g.N a1 a2 a3 (w64 ((if (w64 ((a1.length:Int) + 1)) < a4 then (w64 ((a1.length:Int) + 1)) else a4) - 1)) 0 (List.replicate ((if (w64 ((a1.length:Int) + 1)) < a4 then (w64 ((a1.length:Int) + 1)) else a4):Int).toNat []) (fun e20 e21 e22=>(inr e22 e21 (at_ e22 e21 fun x23=>(bif (decide (0≤(w64 (e21 + 1))) && decide ((w64 (e21 + 1))≤((set_ e22 e21 e20).length:Int))) then k0 ((set_ e22 e21 e20).take ((w64 (e21 + 1)):Int).toNat) else none))))) else none))))
noncomputable def ydUy [Fuel]:C_z33z:=⟨NN,@strings_Count _,@strings_Index _⟩
noncomputable def z33z [Fuel]:yuTy:=@z33z_ ydUy
def ym5y (g:yuTy):Spec A:=fun args=>match args with | [.d (.str a1),.d (.str a2),.d (.int .i64 a3),.d (.int .i64 a4)]=>fun k=>g a1 a2 a3 a4 (fun z0=>k (.arr 9 z0) [.undef,.undef,.undef,.undef]) | _=>fun _=>none
def yjby:SSt:=mkSh 66 2 [(0,.str),(1,.str),(2,.int .i64),(3,.int .i64),(9,.own 9 0),(10,.int .i64)] [(0,.row 9)]
def ydMy (g:C_z33z) (n:Nat):LPT A:=fun ps=>match ps with | [.d (.str p1),.d (.str p2),.d (.int .i64 p3),.d (.int .i64 p4),.d (.int .i64 p5),.d (.sl 9 p6)]=>fun K=>z33z_L11 g n p1 p2 p3 p4 p5 p6 (fun z0 z1 z2=>K (.exit 0) (mkSt 66 2 [(0,.d (.str z0)),(9,.own 9 0),(10,.d (.int .i64 z1))] [(0,some (.row 9 z2))])) | _=>fun _=>none
noncomputable def yuPy:Code:=(Tryz.f127.body).getD .skip
noncomputable def ypwy (g:C_z33z):Env A:=mkE [(190,yijy g.strings_Count),(191,yb1y g.strings_Index)] [(31,[0]),(65,[1])] [(11,⟨[0,1,2,3,9,10],[],[0],[],[],[],[]⟩)] [(11,⟨[0,9,10],[],[0],[],[],[],[]⟩)] [(11,yafy yjby (ydMy g g.N))] [] [] [] [] []
theorem yIGy [Fuel]:yagy (ypwy ydUy).C:=ct_of (P:=Tryz.prog) (T:=T) (.cons yiny (.cons yegy .nil)) (by kernel_rfl)
noncomputable def yn7y:Code:=sub [1,1,1,1,1,1,1,1,0,0,0] yuPy
theorem yAxy (g:C_z33z) (n:Nat):yaly (ypwy g) g.N yn7y yjby (ydMy g) n:=by intro ps; unfold ydMy; split; exact .inr fun R K=>(by kernel_rfl); exact .inl fun R K=>rfl
theorem yxJy [Fuel]:yaey (ypwy ydUy) NN yn7y:=yahy yjby (ydMy ydUy) (by kernel_rfl) yIGy (cuts0 (fun _=>rfl) (by kernel_rfl)) (fun ps R K=>by unfold ydMy; split <;> (try unfold z33z_L11) <;> rfl) (yAxy ydUy)
theorem yIky (g:C_z33z):Same (ym5y (@z33z_ g)) (abody (ypwy g) Tryz.f127 yuPy 2 [] [.arr 9] g.N):=by intro args; unfold ym5y; split; exact .inr fun R k=>(by kernel_rfl); exact .inl fun R k=>rfl
theorem yJfy [Fuel]:Ok 127 (ym5y (@z33z _)):=yaay std (.cons yiny (.cons yegy .nil)) ⟨rfl,rfl,by kernel_rfl,rfl,rfl,rfl⟩ (yIky ydUy) (cutsL (fun _=>rfl) (.cons yxJy .nil) (by kernel_rfl)) Tryz.func127 (by kernel_rfl) (by kernel_rfl)
abbrev yqOy:Type 1:=List UInt8→List UInt8→{R:Type}→(List (List UInt8)→Option R)→Option R
structure C_z66z where
 N:Nat
 z33z:yuTy
def z66z_ (g:C_z66z) (a1 a2:List UInt8) {R:Type} (k0:List (List UInt8)→Option R):Option R :=
 (g.z33z a1 a2 0 (-1) (fun r3=>k0 r3))
noncomputable def yDwy [Fuel]:C_z66z:=⟨NN,@z33z _⟩
noncomputable def z66z [Fuel]:yqOy:=@z66z_ yDwy
def yjHy (g:yqOy):Spec A:=fun args=>match args with | [.d (.str a1),.d (.str a2)]=>fun k=>g a1 a2 (fun z0=>k (.arr 9 z0) [.undef,.undef]) | _=>fun _=>none
noncomputable def yGKy:Code:=(Tryz.f75.body).getD .skip
noncomputable def yLqy (g:C_z66z):Env A:=mkE [(127,ym5y g.z33z)] [(7,[0])] [] [] [] [] [] [] [] []
theorem yHzy (g:C_z66z):Same (yjHy (@z66z_ g)) (abody (yLqy g) Tryz.f75 yGKy 1 [] [.arr 9] g.N):=by intro args; unfold yjHy; split; exact .inr fun R k=>(by kernel_rfl); exact .inl fun R k=>rfl
theorem yrFy [Fuel]:Ok 75 (yjHy (@z66z _)):=yaay std (.cons yJfy .nil) ⟨rfl,rfl,by kernel_rfl,rfl,rfl,rfl⟩ (yHzy yDwy) (cuts0 (fun _=>rfl) (by kernel_rfl)) Tryz.func75 (by kernel_rfl) (by kernel_rfl)
abbrev yjdy:Type 1:=List UInt8→{R:Type}→(List (List UInt8)→Bool→Option R)→Option R
structure C_kit_Lines where
 N:Nat
 z65z:yv2y
 z66z:yqOy
def yhsy (g:C_kit_Lines) (a1:List UInt8) {R:Type} (k0:List (List UInt8)→Bool→Option R):Option R :=
 (bif (a1 == []) then k0 [] true else (g.z65z a1 [10] (fun r2 r3=>(g.z66z r2 [10] (fun r4=>k0 r4 r3)))))
noncomputable def ydLy [Fuel]:C_kit_Lines:=⟨NN,@z65z _,@z66z _⟩
noncomputable def kit_Lines [Fuel]:yjdy:=@yhsy ydLy
def yfsy (g:yjdy):Spec A:=fun args=>match args with | [.d (.str a1)]=>fun k=>g a1 (fun z0 z1=>k (.tup [.arr 9 z0,.d (.bool z1)]) [.undef]) | _=>fun _=>none
noncomputable def yIHy:Code:=(Tryz.f34.body).getD .skip
noncomputable def yyjy (g:C_kit_Lines):Env A:=mkE [(74,ynBy g.z65z),(75,yjHy g.z66z)] [(14,[0])] [] [] [] [] [] [] [] []
theorem yuhy (g:C_kit_Lines):Same (yfsy (@yhsy g)) (abody (yyjy g) Tryz.f34 yIHy 1 [] [.arr 9,.asis] g.N):=by intro args; unfold yfsy; split; exact .inr fun R k=>(by kernel_rfl); exact .inl fun R k=>rfl
theorem ylPy [Fuel]:Ok 34 (yfsy (@kit_Lines _)):=yaay std (.cons yHPy (.cons yrFy .nil)) ⟨rfl,rfl,by kernel_rfl,rfl,rfl,rfl⟩ (yuhy ydLy) (cuts0 (fun _=>rfl) (by kernel_rfl)) Tryz.func34 (by kernel_rfl) (by kernel_rfl)
abbrev yi1y:Type 1:=List UInt8→{R:Type}→(List (List UInt8)→Bool→Option R)→Option R
structure C_kit_Words where
 N:Nat
 z66z:yqOy
def yb2y (g:C_kit_Words):Nat→Int→Int→List (List UInt8)→{R:Type}→(Bool→List (List UInt8)→Option R)→(List (List UInt8)→Option R)→Option R
 | 0,_,_,_,_,_,_=>none
 | n + 1,v3,v4,v5,_,e0,e1=>(bif (decide (v4 < v3)) then (inr v5 v4 (at_ v5 v4 fun x7=>(bif (x7 == []) then e0 false v5 else yb2y g n v3 (w64 (v4 + 1)) v5 e0 e1))) else e1 v5)
def yp3y (g:C_kit_Words) (a1:List UInt8) {R:Type} (k0:List (List UInt8)→Bool→Option R):Option R :=
 (g.z66z a1 [32] (fun r2=>(yb2y g g.N (r2.length:Int) 0 r2 (fun e8 e9=>k0 [] e8) (fun e10=>k0 e10 true))))
noncomputable def ybFy [Fuel]:C_kit_Words:=⟨NN,@z66z _⟩
noncomputable def kit_Words [Fuel]:yi1y:=@yp3y ybFy
def ye5y (g:yi1y):Spec A:=fun args=>match args with | [.d (.str a1)]=>fun k=>g a1 (fun z0 z1=>k (.tup [.arr 9 z0,.d (.bool z1)]) [.undef]) | _=>fun _=>none
def yfjy:SSt:=mkSh 19 1 [(4,.own 9 0),(9,.own 9 0),(10,.int .i64),(11,.int .i64)] [(0,.row 9)]
def ycmy (g:C_kit_Words) (n:Nat):LPT A:=fun ps=>match ps with | [.d (.int .i64 p1),.d (.int .i64 p2),.d (.sl 9 p3)]=>fun K=>yb2y g n p1 p2 p3 (fun z0 z1=>K .ret (mkSt 19 1 [(2,.d .nsl),(3,.d (.bool z0)),(4,.own 9 0)] [(0,some (.row 9 z1))])) (fun z0=>K (.exit 0) (mkSt 19 1 [(4,.own 9 0)] [(0,some (.row 9 z0))])) | _=>fun _=>none
noncomputable def yyOy:Code:=(Tryz.f35.body).getD .skip
noncomputable def ygxy (g:C_kit_Words):Env A:=mkE [(75,yjHy g.z66z)] [(8,[0])] [(3,⟨[4,9,10,11],[],[0],[],[],[],[]⟩)] [(3,⟨[2,3,4],[],[0],[],[],[],[]⟩)] [(3,yafy yfjy (ycmy g g.N))] [] [] [] [] []
theorem yuxy [Fuel]:yagy (ygxy ybFy).C:=ct_of (P:=Tryz.prog) (T:=T) (.cons yrFy .nil) (by kernel_rfl)
noncomputable def yiyy:Code:=sub [1,1,0,1,0,0] yyOy
theorem yr5y (g:C_kit_Words) (n:Nat):yaly (ygxy g) g.N yiyy yfjy (ycmy g) n:=by intro ps; unfold ycmy; split; exact .inr fun R K=>(by kernel_rfl); exact .inl fun R K=>rfl
theorem yqxy [Fuel]:yaey (ygxy ybFy) NN yiyy:=yahy yfjy (ycmy ybFy) (by kernel_rfl) yuxy (cuts0 (fun _=>rfl) (by kernel_rfl)) (fun ps R K=>by unfold ycmy; split <;> (try unfold yb2y) <;> rfl) (yr5y ybFy)
theorem yvKy (g:C_kit_Words):Same (ye5y (@yp3y g)) (abody (ygxy g) Tryz.f35 yyOy 1 [] [.arr 9,.asis] g.N):=by intro args; unfold ye5y; split; exact .inr fun R k=>(by kernel_rfl); exact .inl fun R k=>rfl
theorem ymly [Fuel]:Ok 35 (ye5y (@kit_Words _)):=yaay std (.cons yrFy .nil) ⟨rfl,rfl,by kernel_rfl,rfl,rfl,rfl⟩ (yvKy ybFy) (cutsL (fun _=>rfl) (.cons yqxy .nil) (by kernel_rfl)) Tryz.func35 (by kernel_rfl) (by kernel_rfl)
abbrev ywby:Type 1:=List UInt8→List UInt8→{R:Type}→(Bool→Option R)→Option R
def z68z_ (g:Nat) (a1 a2:List UInt8) {R:Type} (k0:Bool→Option R):Option R :=
 (bif (decide ((a1.length:Int) ≥ (a2.length:Int))) then (bif (decide (0≤(a2.length:Int)) && decide ((a2.length:Int)≤(a1.length:Int))) then k0 ((a1.take ((a2.length:Int):Int).toNat) == a2) else none) else k0 false)
noncomputable def z68z [Fuel]:ywby:=@z68z_ NN
def ynPy (g:ywby):Spec A:=fun args=>match args with | [.d (.str a1),.d (.str a2)]=>fun k=>g a1 a2 (fun z0=>k (.d (.bool z0)) [.undef,.undef]) | _=>fun _=>none
noncomputable def yEpy:Code:=(Tryz.f237.body).getD .skip
noncomputable def yLyy (g:Nat):Env A:=mkE [] [] [] [] [] [] [] [] [] []
theorem yHay (g:Nat):Same (ynPy (@z68z_ g)) (abody (yLyy g) Tryz.f237 yEpy 0 [] [.asis] g):=by intro args; unfold ynPy; split; exact .inr fun R k=>(by kernel_rfl); exact .inl fun R k=>rfl
theorem yHHy [Fuel]:Ok 237 (ynPy (@z68z _)):=yaay std .nil ⟨rfl,rfl,by kernel_rfl,rfl,rfl,rfl⟩ (yHay NN) (cuts0 (fun _=>rfl) (by kernel_rfl)) Tryz.func237 (by kernel_rfl) (by kernel_rfl)
abbrev ywVy:Type 1:=List UInt8→List UInt8→{R:Type}→(List UInt8→Bool→Option R)→Option R
structure C_z56z where
 N:Nat
 z68z:ywby
def z56z_ (g:C_z56z) (a1 a2:List UInt8) {R:Type} (k0:List UInt8→Bool→Option R):Option R :=
 (g.z68z a1 a2 (fun r3=>(bif (!r3) then k0 a1 false else (bif (decide (0≤(a2.length:Int)) && decide ((a2.length:Int)≤(a1.length:Int))) then k0 (a1.drop ((a2.length:Int):Int).toNat) true else none))))
noncomputable def ypRy [Fuel]:C_z56z:=⟨NN,@z68z _⟩
noncomputable def z56z [Fuel]:ywVy:=@z56z_ ypRy
def ynGy (g:ywVy):Spec A:=fun args=>match args with | [.d (.str a1),.d (.str a2)]=>fun k=>g a1 a2 (fun z0 z1=>k (.tup [.d (.str z0),.d (.bool z1)]) [.undef,.undef]) | _=>fun _=>none
noncomputable def yD3y:Code:=(Tryz.f192.body).getD .skip
noncomputable def yLky (g:C_z56z):Env A:=mkE [(237,ynPy g.z68z)] [] [] [] [] [] [] [] [] []
theorem yI0y (g:C_z56z):Same (ynGy (@z56z_ g)) (abody (yLky g) Tryz.f192 yD3y 0 [] [.asis,.asis] g.N):=by intro args; unfold ynGy; split; exact .inr fun R k=>(by kernel_rfl); exact .inl fun R k=>rfl
theorem yGfy [Fuel]:Ok 192 (ynGy (@z56z _)):=yaay std (.cons yHHy .nil) ⟨rfl,rfl,by kernel_rfl,rfl,rfl,rfl⟩ (yI0y ypRy) (cuts0 (fun _=>rfl) (by kernel_rfl)) Tryz.func192 (by kernel_rfl) (by kernel_rfl)
abbrev ytTy:Type 1:=List UInt8→List UInt8→{R:Type}→(List UInt8→Bool→Option R)→Option R
structure C_z62z where
 N:Nat
 z56z:ywVy
def z62z_ (g:C_z62z) (a1 a2:List UInt8) {R:Type} (k0:List UInt8→Bool→Option R):Option R :=
 (g.z56z a1 a2 (fun r3 r4=>k0 r3 r4))
noncomputable def yCpy [Fuel]:C_z62z:=⟨NN,@z56z _⟩
noncomputable def z62z [Fuel]:ytTy:=@z62z_ yCpy
def ynKy (g:ytTy):Spec A:=fun args=>match args with | [.d (.str a1),.d (.str a2)]=>fun k=>g a1 a2 (fun z0 z1=>k (.tup [.d (.str z0),.d (.bool z1)]) [.undef,.undef]) | _=>fun _=>none
noncomputable def yFWy:Code:=(Tryz.f128.body).getD .skip
noncomputable def yJ4y (g:C_z62z):Env A:=mkE [(192,ynGy g.z56z)] [] [] [] [] [] [] [] [] []
theorem yGPy (g:C_z62z):Same (ynKy (@z62z_ g)) (abody (yJ4y g) Tryz.f128 yFWy 0 [] [.asis,.asis] g.N):=by intro args; unfold ynKy; split; exact .inr fun R k=>(by kernel_rfl); exact .inl fun R k=>rfl
theorem yJwy [Fuel]:Ok 128 (ynKy (@z62z _)):=yaay std (.cons yGfy .nil) ⟨rfl,rfl,by kernel_rfl,rfl,rfl,rfl⟩ (yGPy yCpy) (cuts0 (fun _=>rfl) (by kernel_rfl)) Tryz.func128 (by kernel_rfl) (by kernel_rfl)
abbrev ygcy:Type 1:=List UInt8→{R:Type}→(Int→Option R)→Option R
def strconv_Atoi [Fuel]:ygcy:=@yqdy
def yiuy (g:ygcy):Spec A:=yh2y g
theorem yqMy [Fuel]:Ok 130 (yiuy (@strconv_Atoi _)):=⟨yscy (yByy rfl (fun s n w h0 h1=>(Any.strconv_Atoi Tryz.lays172 s n h0 h1 w).mono (fun e w h=>⟨h.1,_,h.2⟩))),yuyy,enters_of (fn:=Tryz.f130) Tryz.func130 (by kernel_rfl) (by kernel_rfl)⟩
end Go.Am
