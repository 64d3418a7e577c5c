/- The functions of the program as Lean functions, each shown to be what the code computes, part 13. No condition: lemmas for the claim. -/
import Derived.Test.YtnlblmnoiepeaaaGreatDoorF0
import Derived.Test.YtnlblmnoiepeaaaGreatDoorFSh
import Derived.Test.YtnlblmnoiepeaaaGreatDoorF1
import Derived.Test.YtnlblmnoiepeaaaGreatDoorF3
import Derived.Test.YtnlblmnoiepeaaaGreatDoorF5
import Derived.Test.YtnlblmnoiepeaaaGreatDoorF6
import Derived.Test.YtnlblmnoiepeaaaGreatDoorF7
import Derived.Test.YtnlblmnoiepeaaaGreatDoorF8
import Derived.Test.YtnlblmnoiepeaaaGreatDoorF9
import Derived.Test.YtnlblmnoiepeaaaGreatDoorF12
set_option linter.unusedVariables false
set_option maxRecDepth 100000
namespace Go.Am
open Go Go.Proofs
abbrev yhZy:Type 1:=List Int→{R:Type}→(Bool→Option R)→Option R
structure C_keep_SpotsOnce where
 N:Nat
 z33z:yxWy
 z32z:yxly
 z71z:yriy
 z30z:yygy
 log_BandOf:yiDy
 band_Heard:yiuy
 band_Sweep:yh8y
 z5z:T_z5z
 keep_errs:ygJy
 z82z:yzey
 z78z:yzdy
 z47z:yvSy
 keep_ready:yidy
def yaYy (g:C_keep_SpotsOnce):Nat→Int→Int→Int→List G_Spot→Int→Int→Int→List UInt8→List G_Spot→Int→Int→List G_Spot→Int→Int→List G_Band→List (List UInt8)→List (List UInt8)→G_Spot→{R:Type}→(Bool→Int→Int→Int→List G_Spot→Int→Int→Int→List G_Spot→Int→Int→List G_Band→List (List UInt8)→List (List UInt8)→G_Spot→Option R)→(Int→Int→Int→List G_Spot→Int→Int→Int→List G_Spot→Int→Int→List G_Band→List (List UInt8)→List (List UInt8)→G_Spot→Option R)→Option R
 | 0,_,_,_,_,_,_,_,_,_,_,_,_,_,_,_,_,_,_,_,_,_=>none
 | n + 1,v100,v101,v102,v103,v104,v105,v106,v107,v108,v109,v110,v111,v112,v113,v114,v115,v116,v117,_,e0,e1=>(bif (decide (v113 < v112)) then (get_ v111 v113 fun x122=>(g.log_BandOf v114 x122.f_Hertz (fun r123 r124 r125=>(bif (r123 == v107) then (bif (x122.f_Call == v117.f_Call) then e0 false v100 v101 v102 v103 v104 v105 v106 v108 v109 v110 v114 v115 v116 v117 else yaYy g n v100 v101 v102 v103 v104 v105 v106 v107 v108 v109 v110 v111 v112 (w64 (v113 + 1)) v114 v115 v116 v117 e0 e1) else yaYy g n v100 v101 v102 v103 v104 v105 v106 v107 v108 v109 v110 v111 v112 (w64 (v113 + 1)) v114 v115 v116 v117 e0 e1)))) else e1 v100 v101 v102 v103 v104 v105 v106 v108 v109 v110 v114 v115 v116 v117)
def ybjy (g:C_keep_SpotsOnce):Nat→Int→Int→Int→List G_Spot→Int→Int→Int→List G_Spot→Int→Int→List G_Band→List (List UInt8)→List (List UInt8)→{R:Type}→(Bool→Int→Int→Int→Int→List (List UInt8)→List (List UInt8)→Option R)→(Int→Int→Int→Int→List (List UInt8)→List (List UInt8)→Option R)→Option R
 | 0,_,_,_,_,_,_,_,_,_,_,_,_,_,_,_,_=>none
 | n + 1,v24,v25,v26,v27,v28,v29,v30,v31,v32,v33,v34,v35,v36,_,e0,e1=>(bif (decide (v33 < v32)) then (get_ v31 v33 fun x96=>(g.log_BandOf v34 x96.f_Hertz (fun r97 r98 r99=>(bif (r97 == []) then e0 false v26 v28 v29 v30 v35 v36 else (bif (decide (x96.f_At > v25)) then e0 false v26 v28 v29 v30 v35 v36 else (bif (decide (x96.f_At≤(w64 (v25 - v24)))) then e0 false v26 v28 v29 v30 v35 v36 else (bif (decide (0≤v33) && decide (v33≤(v27.length:Int))) then (yaYy g g.N v24 v25 v26 v27 v28 v29 v30 r97 v31 v32 v33 (v27.take (v33:Int).toNat) ((v27.take (v33:Int).toNat).length:Int) 0 v34 v35 v36 x96 (fun e126 e127 e128 e129 e130 e131 e132 e133 e134 e135 e136 e137 e138 e139 e140=>e0 e126 e129 e131 e132 e133 e138 e139) (fun e141 e142 e143 e144 e145 e146 e147 e148 e149 e150 e151 e152 e153 e154=>(bif (decide ((e153.length + [e154.f_Call].length) * 16≤yaly)) then ybjy g n e141 e142 e143 e144 e145 (if e154.f_Hertz < e146 then e154.f_Hertz else e146) (if e154.f_Hertz > e147 then e154.f_Hertz else e147) e148 e149 (w64 (e150 + 1)) e151 e152 (e153 ++ [e154.f_Call]) e0 e1 else none))) else none))))))) else e1 v26 v28 v29 v30 v35 v36)
def ydly (g:C_keep_SpotsOnce) (a1:List Int) {R:Type} (k0:Bool→Option R):Option R :=
 (g.z33z (⟨a1,0⟩:G_Stream) (fun r2 r3=>(g.z71z r3 0 12 (fun r4 r5=>(g.z32z r5 r4 (fun r6 r7=>(g.z71z r7 1 100 (fun r8 r9=>(g.z71z r9 0 100 (fun r10 r11=>(g.z71z r11 7000000 14100000 (fun r12 r13=>(g.band_Heard r2 r6 r8 r10 (fun r14 r15=>(g.z30z r2 r6 1 r8 r10 r12 (fun r16 r17=>(g.band_Sweep r2 r6 r8 r10 r12 (fun r18 r19 r20=>(g.z5z r2 r6 r8 r10 (fun r21 r22=>(g.keep_errs [r15,r17,r20,r22] (fun r23=>(bif (r23 != 0) then k0 false else (bif ((r16.length:Int) != (r14.length:Int)) then k0 false else (bif ((r18.length:Int) != (r14.length:Int)) then k0 false else (bif ((r21.length:Int) != (r2.length:Int)) then k0 false else (ybjy g g.N r8 r10 r12 r14 r19 r12 r12 r14 (r14.length:Int) 0 r2 r18 [] (fun e155 e156 e157 e158 e159 e160 e161=>k0 e155) (fun e162 e163 e164 e165 e166 e167=>(g.z82z e166 (fun r168=>(g.z78z e167 (fun r169=>(g.z78z r168 (fun r170=>(g.z47z r169 r170 (fun r171=>(bif r171 then (bif (e163 == (w64 ((w64 (e165 - e164)) + (if (w64 (e162 - e164)) < (w64 (e165 - e162)) then (w64 (e162 - e164)) else (w64 (e165 - e162)))))) then (g.keep_ready (fun r172=>k0 r172)) else k0 false) else k0 false)))))))))))))))))))))))))))))))))))))
noncomputable def yaiy [Fuel]:C_keep_SpotsOnce:=⟨NN,@z33z _,@z32z _,@z71z _,@z30z _,@log_BandOf _,@band_Heard _,@band_Sweep _,@z5z _,@keep_errs _,@z82z _,@z78z _,@z47z _,@keep_ready _⟩
noncomputable def keep_SpotsOnce [Fuel]:yhZy:=@ydly yaiy
def SS_keep_SpotsOnce (g:yhZy):Spec A:=fun args=>match args with | [.d (.sl 3 a1)]=>fun k=>g a1 (fun z0=>k (.d (.bool z0)) [.undef]) | _=>fun _=>none
def ycQy:SSt:=mkSh 211 14 [(4,.own 62 1),(6,.int .i64),(7,.int .i64),(8,.int .i64),(9,.sl 42),(13,.own 9 5),(14,.int .i64),(18,.int .i64),(19,.int .i64),(20,.own 9 8),(23,.ptr 9 0),(24,.str),(112,.sl 42),(113,.int .i64),(114,.int .i64),(145,.sl 42),(146,.int .i64),(147,.int .i64)] [(1,.row 62),(5,.row 9),(8,.row 9),(9,.box [.int .i64,.int .i64,.str,.str])]
def ybBy (g:C_keep_SpotsOnce) (n:Nat):LPT A:=fun ps=>match ps with | [.d (.int .i64 p1),.d (.int .i64 p2),.d (.int .i64 p3),.d (.sl 42 p4),.d (.int .i64 p5),.d (.int .i64 p6),.d (.int .i64 p7),.d (.str p8),.d (.sl 42 p9),.d (.int .i64 p10),.d (.int .i64 p11),.d (.sl 42 p12),.d (.int .i64 p13),.d (.int .i64 p14),.d (.sl 62 p15),.d (.sl 9 p16),.d (.sl 9 p17),.d (.int .i64 p18),.d (.int .i64 p19),.d (.str p20),.d (.str p21)]=>fun K=>yaYy g n p1 p2 p3 p4 p5 p6 p7 p8 p9 p10 p11 p12 p13 p14 p15 p16 p17 ⟨p18,p19,p20,p21⟩ (fun z0 z1 z2 z3 z4 z5 z6 z7 z8 z9 z10 z11 z12 z13 z14=>K .ret (mkSt 211 14 [(2,.d (.bool z0)),(4,.own 62 1),(6,.d (.int .i64 z1)),(7,.d (.int .i64 z2)),(8,.d (.int .i64 z3)),(9,.d (.sl 42 z4)),(13,.own 9 5),(14,.d (.int .i64 z5)),(18,.d (.int .i64 z6)),(19,.d (.int .i64 z7)),(20,.own 9 8),(23,.ptr 9 0),(112,.d (.sl 42 z8)),(113,.d (.int .i64 z9)),(114,.d (.int .i64 z10))] [(1,some (.row 62 z11)),(5,some (.row 9 z12)),(8,some (.row 9 z13)),(9,some (.box [.d (.int .i64 z14.f_At),.d (.int .i64 z14.f_Hertz),.d (.str z14.f_Call),.d (.str z14.f_By)]))])) (fun z0 z1 z2 z3 z4 z5 z6 z7 z8 z9 z10 z11 z12 z13=>K (.exit 2) (mkSt 211 14 [(4,.own 62 1),(6,.d (.int .i64 z0)),(7,.d (.int .i64 z1)),(8,.d (.int .i64 z2)),(9,.d (.sl 42 z3)),(13,.own 9 5),(14,.d (.int .i64 z4)),(18,.d (.int .i64 z5)),(19,.d (.int .i64 z6)),(20,.own 9 8),(23,.ptr 9 0),(112,.d (.sl 42 z7)),(113,.d (.int .i64 z8)),(114,.d (.int .i64 z9))] [(1,some (.row 62 z10)),(5,some (.row 9 z11)),(8,some (.row 9 z12)),(9,some (.box [.d (.int .i64 z13.f_At),.d (.int .i64 z13.f_Hertz),.d (.str z13.f_Call),.d (.str z13.f_By)]))])) | _=>fun _=>none
def ycEy:SSt:=mkSh 211 14 [(4,.own 62 1),(6,.int .i64),(7,.int .i64),(8,.int .i64),(9,.sl 42),(13,.own 9 5),(14,.int .i64),(18,.int .i64),(19,.int .i64),(20,.own 9 8),(112,.sl 42),(113,.int .i64),(114,.int .i64)] [(1,.row 62),(5,.row 9),(8,.row 9)]
def ybDy (g:C_keep_SpotsOnce) (n:Nat):LPT A:=fun ps=>match ps with | [.d (.int .i64 p1),.d (.int .i64 p2),.d (.int .i64 p3),.d (.sl 42 p4),.d (.int .i64 p5),.d (.int .i64 p6),.d (.int .i64 p7),.d (.sl 42 p8),.d (.int .i64 p9),.d (.int .i64 p10),.d (.sl 62 p11),.d (.sl 9 p12),.d (.sl 9 p13)]=>fun K=>ybjy g n p1 p2 p3 p4 p5 p6 p7 p8 p9 p10 p11 p12 p13 (fun z0 z1 z2 z3 z4 z5 z6=>K .ret (mkSt 211 14 [(2,.d (.bool z0)),(8,.d (.int .i64 z1)),(13,.own 9 5),(14,.d (.int .i64 z2)),(18,.d (.int .i64 z3)),(19,.d (.int .i64 z4)),(20,.own 9 8)] [(5,some (.row 9 z5)),(8,some (.row 9 z6))])) (fun z0 z1 z2 z3 z4 z5=>K (.exit 0) (mkSt 211 14 [(8,.d (.int .i64 z0)),(13,.own 9 5),(14,.d (.int .i64 z1)),(18,.d (.int .i64 z2)),(19,.d (.int .i64 z3)),(20,.own 9 8)] [(5,some (.row 9 z4)),(8,some (.row 9 z5))])) | _=>fun _=>none
noncomputable def yxky:Code:=(Tryz.f4.body).getD .skip
noncomputable def ybOy (g:C_keep_SpotsOnce):Env A:=mkE [(5,yo0y g.z33z),(6,ynZy g.z32z),(7,yjMy g.z71z),(9,yoUy g.z30z),(13,yepy g.log_BandOf),(17,yeqy g.band_Heard),(18,yejy g.band_Sweep),(19,yqKy g.z5z),(20,ydvy g.keep_errs),(21,yjUy g.z82z),(22,yksy g.z78z),(23,yn5y g.z47z),(24,yery g.keep_ready)] [(23,[9]),(28,[10]),(34,[0]),(36,[1]),(40,[2]),(52,[3]),(61,[4]),(70,[5]),(79,[6]),(86,[7]),(181,[11]),(182,[12]),(185,[13])] [(18,⟨[4,6,7,8,9,13,14,18,19,20,23,24,112,113,114,145,146,147],[],[1,5,8,9],[],[],[],[]⟩),(12,⟨[4,6,7,8,9,13,14,18,19,20,112,113,114],[(20,9,8)],[1,5],[],[],[9,112],[]⟩)] [(18,⟨[2,4,6,7,8,9,13,14,18,19,20,23,112,113,114],[],[1,5,8,9],[],[],[],[]⟩),(12,⟨[2,8,13,14,18,19,20],[],[5,8],[],[],[],[]⟩)] [(18,yafy ycQy (ybBy g g.N)),(12,yafy ycEy (ybDy g g.N))] [] [] [] [(22,0)] []
theorem yhyy [Fuel]:yahy (ybOy yaiy).C:=ct_of (P:=Tryz.prog) (T:=T) (.cons yBiy (.cons yB8y (.cons ytPy (.cons yByy (.cons ymiy (.cons ymjy (.cons yl9y (.cons yE6y (.cons yiky (.cons yBHy (.cons yBEy (.cons yAEy (.cons ymmy .nil))))))))))))) (by kernel_rfl)
noncomputable def yeMy:Code:=sub [1,1,1,1,1,1,1,1,1,1,0,1,0,0,1,1,0,0,1,1,1,0,1,0,0] yxky
theorem ylyy (g:C_keep_SpotsOnce) (n:Nat):yaky (ybOy g) g.N yeMy ycQy (ybBy g) n:=by intro ps; unfold ybBy; split; exact .inr fun R K=>(by kernel_rfl); exact .inl fun R K=>rfl
theorem yeRy [Fuel]:yacy (ybOy yaiy) NN yeMy:=yaey ycQy (ybBy yaiy) (by kernel_rfl) yhyy (cuts0 (fun _=>rfl) (by kernel_rfl)) (fun ps R K=>by unfold ybBy; split <;> (try unfold yaYy) <;> rfl) (ylyy yaiy)
noncomputable def yeHy:Code:=sub [1,1,1,1,1,1,1,1,1,1,0,1,0,0] yxky
theorem ykFy (g:C_keep_SpotsOnce) (n:Nat):yaky (ybOy g) g.N yeHy ycEy (ybDy g) n:=by intro ps; unfold ybDy; split; exact .inr fun R K=>(by kernel_rfl); exact .inl fun R K=>rfl
theorem yjGy [Fuel]:yacy (ybOy yaiy) NN yeHy:=yaey ycEy (ybDy yaiy) (by kernel_rfl) yhyy (cutsL (fun _=>rfl) (.cons yeRy .nil) (by kernel_rfl)) (fun ps R K=>by unfold ybDy; split <;> (try unfold ybjy) <;> rfl) (ykFy yaiy)
theorem yo7y (g:C_keep_SpotsOnce):Same (SS_keep_SpotsOnce (@ydly g)) (abody (ybOy g) Tryz.f4 yxky 14 [] [.asis] g.N):=by intro args; unfold SS_keep_SpotsOnce; split; exact .inr fun R k=>(by kernel_rfl); exact .inl fun R k=>rfl
theorem ok_keep_SpotsOnce [Fuel]:Ok 4 (SS_keep_SpotsOnce (@keep_SpotsOnce _)):=yaay std (.cons yBiy (.cons yB8y (.cons ytPy (.cons yByy (.cons ymiy (.cons ymjy (.cons yl9y (.cons yE6y (.cons yiky (.cons yBHy (.cons yBEy (.cons yAEy (.cons ymmy .nil))))))))))))) ⟨rfl,rfl,by kernel_rfl,rfl,rfl,rfl⟩ (yo7y yaiy) (cutsL (fun _=>rfl) (.cons yeRy (.cons yjGy .nil)) (by kernel_rfl)) Tryz.func4 (by kernel_rfl) (by kernel_rfl)
end Go.Am
