/- The functions of the program as Lean functions, each shown to be what the code computes, part 0. No condition: lemmas for the claim. -/
import Derived.Test.YtoajjnhmofegcaaGreatDoorAmPrint
import Derived.Test.YtoajjnhmofegcaaGreatDoorAmBld
import Derived.Test.YtoajjnhmofegcaaGreatDoorFSh
import Derived.Test.YtoajjnhmofegcaaGreatDoorAmIn
import Derived.Test.YtoajjnhmofegcaaGreatDoorProg
import Derived.KernelRfl
set_option linter.unusedVariables false
set_option maxRecDepth 100000
namespace Go.Am
open Go Go.Proofs
structure G_Stream where
 f_L:List Int
 f_at:Int
 deriving DecidableEq
structure G_Contact where
 f_At:Int
 f_Mode:Int
 f_Band:List UInt8
 f_Call:List UInt8
 f_Sent:Int
 f_Heard:Int
 f_Gave:List UInt8
 f_Got:List UInt8
 deriving DecidableEq
structure G_Deed where
 f_Site:List UInt8
 f_No:Int
 f_At:Int
 f_Kind:Int
 f_Contact:G_Contact
 f_Band:List UInt8
 f_Of:List UInt8
 f_Other:Int
 deriving DecidableEq
structure G_Parts where
 f_Base:List UInt8
 f_Prefix:List UInt8
 f_Suffix:List UInt8
 f_Kind:Int
 f_Added:List UInt8
 deriving DecidableEq
structure G_net_own where
 f_site:List UInt8
 f_no:Int
 deriving DecidableEq
inductive El where
 | e3 | e4 | e9 | e25 | e39 | e71 | e162 | e182 | no
def el:Nat→El
 | 3=>.e3
 | 4=>.e4
 | 9=>.e9
 | 25=>.e25
 | 39=>.e39
 | 71=>.e71
 | 162=>.e162
 | 182=>.e182
 | _=>.no
def AE:El→Type
 | .e3=>Int
 | .e4=>Bool
 | .e9=>List UInt8
 | .e25=>G_Stream
 | .e39=>G_Contact
 | .e71=>G_Deed
 | .e162=>G_Parts
 | .e182=>G_net_own
 | .no=>Unit
abbrev A (e:Nat):Type:=AE (el e)
def sizeE:El→Nat
 | .e3=>1
 | .e4=>1
 | .e9=>1
 | .e25=>2
 | .e39=>8
 | .e71=>15
 | .e162=>5
 | .e182=>2
 | .no=>1
def yvey (x:Int):List (D A):=[.int .i64 x]
def ythy (cs:List (D A)):Option (Int):=match cs with | [c0]=>(dInt .i64 c0).bind fun b1=>some b1 | _=>none
def yuzy (x:Bool):List (D A):=[.bool x]
def ytPy (cs:List (D A)):Option (Bool):=match cs with | [c0]=>(dBool c0).bind fun b1=>some b1 | _=>none
def ytCy (x:List UInt8):List (D A):=[.str x]
def yvmy (cs:List (D A)):Option (List UInt8):=match cs with | [c0]=>(dStr c0).bind fun b1=>some b1 | _=>none
def yxNy (x:G_Stream):List (D A):=[.sl 3 x.f_L,.int .i64 x.f_at]
def yrQy (cs:List (D A)):Option (G_Stream):=match cs with | [c0,c1]=>(dSl 3 c0).bind fun b1=>(dInt .i64 c1).bind fun b2=>some ⟨b1,b2⟩ | _=>none
def ynKy (x:G_Contact):List (D A):=[.int .i64 x.f_At,.int .i64 x.f_Mode,.str x.f_Band,.str x.f_Call,.int .i64 x.f_Sent,.int .i64 x.f_Heard,.str x.f_Gave,.str x.f_Got]
def yrHy (cs:List (D A)):Option (G_Contact):=match cs with | [c0,c1,c2,c3,c4,c5,c6,c7]=>(dInt .i64 c0).bind fun b1=>(dInt .i64 c1).bind fun b2=>(dStr c2).bind fun b3=>(dStr c3).bind fun b4=>(dInt .i64 c4).bind fun b5=>(dInt .i64 c5).bind fun b6=>(dStr c6).bind fun b7=>(dStr c7).bind fun b8=>some ⟨b1,b2,b3,b4,b5,b6,b7,b8⟩ | _=>none
def yrhy (x:G_Deed):List (D A):=[.str x.f_Site,.int .i64 x.f_No,.int .i64 x.f_At,.int .i64 x.f_Kind,.int .i64 x.f_Contact.f_At,.int .i64 x.f_Contact.f_Mode,.str x.f_Contact.f_Band,.str x.f_Contact.f_Call,.int .i64 x.f_Contact.f_Sent,.int .i64 x.f_Contact.f_Heard,.str x.f_Contact.f_Gave,.str x.f_Contact.f_Got,.str x.f_Band,.str x.f_Of,.int .i64 x.f_Other]
def yrIy (cs:List (D A)):Option (G_Deed):=match cs with | [c0,c1,c2,c3,c4,c5,c6,c7,c8,c9,c10,c11,c12,c13,c14]=>(dStr c0).bind fun b1=>(dInt .i64 c1).bind fun b2=>(dInt .i64 c2).bind fun b3=>(dInt .i64 c3).bind fun b4=>(dInt .i64 c4).bind fun b5=>(dInt .i64 c5).bind fun b6=>(dStr c6).bind fun b7=>(dStr c7).bind fun b8=>(dInt .i64 c8).bind fun b9=>(dInt .i64 c9).bind fun b10=>(dStr c10).bind fun b11=>(dStr c11).bind fun b12=>(dStr c12).bind fun b13=>(dStr c13).bind fun b14=>(dInt .i64 c14).bind fun b15=>some ⟨b1,b2,b3,b4,⟨b5,b6,b7,b8,b9,b10,b11,b12⟩,b13,b14,b15⟩ | _=>none
def yoQy (x:G_Parts):List (D A):=[.str x.f_Base,.str x.f_Prefix,.str x.f_Suffix,.int .i64 x.f_Kind,.str x.f_Added]
def yo1y (cs:List (D A)):Option (G_Parts):=match cs with | [c0,c1,c2,c3,c4]=>(dStr c0).bind fun b1=>(dStr c1).bind fun b2=>(dStr c2).bind fun b3=>(dInt .i64 c3).bind fun b4=>(dStr c4).bind fun b5=>some ⟨b1,b2,b3,b4,b5⟩ | _=>none
def ypfy (x:G_net_own):List (D A):=[.str x.f_site,.int .i64 x.f_no]
def yply (cs:List (D A)):Option (G_net_own):=match cs with | [c0,c1]=>(dStr c0).bind fun b1=>(dInt .i64 c1).bind fun b2=>some ⟨b1,b2⟩ | _=>none
def encE:(k:El)→AE k→List (D A)
 | .e3,x=>yvey x
 | .e4,x=>yuzy x
 | .e9,x=>ytCy x
 | .e25,x=>yxNy x
 | .e39,x=>ynKy x
 | .e71,x=>yrhy x
 | .e162,x=>yoQy x
 | .e182,x=>ypfy x
 | .no,_=>[.nilif]
def decE:(k:El)→List (D A)→Option (AE k)
 | .e3,cs=>ythy cs
 | .e4,cs=>ytPy cs
 | .e9,cs=>yvmy cs
 | .e25,cs=>yrQy cs
 | .e39,cs=>yrHy cs
 | .e71,cs=>yrIy cs
 | .e162,cs=>yo1y cs
 | .e182,cs=>yply cs
 | .no,_=>none
def aggE:El→Bool
 | .e3=>false
 | .e4=>false
 | .e9=>false
 | .e25=>true
 | .e39=>true
 | .e71=>true
 | .e162=>true
 | .e182=>true
 | .no=>false
theorem tabg:Tryz.prog.globalNamed "internal/strconv.uint64pow10" = some 1:=by kernel_rfl
def T:Ty A where
 size:=fun e=>sizeE (el e)
 enc:=fun e x=>encE (el e) x
 dec:=fun e cs=>decE (el e) cs
 agg:=fun e=>aggE (el e)
 bld:=some (83,5)
 fix:=[1]
 amb:=fun w=>Lib.TabIs Tryz.prog w "internal/strconv.uint64pow10" .u64 Lib.pow10Tab
 ambOk:=yHOy tabg
theorem lenE:∀ k x,(encE k x).length = sizeE k:=by intro k x;cases k <;> rfl
theorem posE:∀ k,0 < sizeE k:=by intro k;cases k <;> decide
theorem yH9y {U:Ty A} {cs:List (D A)} {x:Int} (h:ythy cs = some x):OkL U cs (yvey x):=by
 unfold ythy at h
 split at h
 ·simp only [Option.bind_eq_some_iff] at h
  obtain ⟨b1,h1,hx⟩:=h
  obtain rfl:=Option.some.inj hx
  exact (.cons (gInt h1) .nil)
 ·cases h
theorem yIcy (x:Int):(yvey x).all D.plain = true:=rfl
theorem yHXy {U:Ty A} {cs:List (D A)} {x:Bool} (h:ytPy cs = some x):OkL U cs (yuzy x):=by
 unfold ytPy at h
 split at h
 ·simp only [Option.bind_eq_some_iff] at h
  obtain ⟨b1,h1,hx⟩:=h
  obtain rfl:=Option.some.inj hx
  exact (.cons (gBool h1) .nil)
 ·cases h
theorem yIDy (x:Bool):(yuzy x).all D.plain = true:=rfl
theorem yIXy {U:Ty A} {cs:List (D A)} {x:List UInt8} (h:yvmy cs = some x):OkL U cs (ytCy x):=by
 unfold yvmy at h
 split at h
 ·simp only [Option.bind_eq_some_iff] at h
  obtain ⟨b1,h1,hx⟩:=h
  obtain rfl:=Option.some.inj hx
  exact (.cons (gStr h1) .nil)
 ·cases h
theorem yIey (x:List UInt8):(ytCy x).all D.plain = true:=rfl
theorem yHAy {U:Ty A} {cs:List (D A)} {x:G_Stream} (h:yrQy cs = some x):OkL U cs (yxNy x):=by
 unfold yrQy at h
 split at h
 ·simp only [Option.bind_eq_some_iff] at h
  obtain ⟨b1,h1,b2,h2,hx⟩:=h
  obtain rfl:=Option.some.inj hx
  exact (.cons (gSl h1) (.cons (gInt h2) .nil))
 ·cases h
theorem yFFy {U:Ty A} {cs:List (D A)} {x:G_Contact} (h:yrHy cs = some x):OkL U cs (ynKy x):=by
 unfold yrHy at h
 split at h
 ·simp only [Option.bind_eq_some_iff] at h
  obtain ⟨b1,h1,b2,h2,b3,h3,b4,h4,b5,h5,b6,h6,b7,h7,b8,h8,hx⟩:=h
  obtain rfl:=Option.some.inj hx
  exact (.cons (gInt h1) (.cons (gInt h2) (.cons (gStr h3) (.cons (gStr h4) (.cons (gInt h5) (.cons (gInt h6) (.cons (gStr h7) (.cons (gStr h8) .nil))))))))
 ·cases h
theorem yHgy (x:G_Contact):(ynKy x).all D.plain = true:=rfl
theorem yEUy {U:Ty A} {cs:List (D A)} {x:G_Deed} (h:yrIy cs = some x):OkL U cs (yrhy x):=by
 unfold yrIy at h
 split at h
 ·simp only [Option.bind_eq_some_iff] at h
  obtain ⟨b1,h1,b2,h2,b3,h3,b4,h4,b5,h5,b6,h6,b7,h7,b8,h8,b9,h9,b10,h10,b11,h11,b12,h12,b13,h13,b14,h14,b15,h15,hx⟩:=h
  obtain rfl:=Option.some.inj hx
  exact (.cons (gStr h1) (.cons (gInt h2) (.cons (gInt h3) (.cons (gInt h4) (.cons (gInt h5) (.cons (gInt h6) (.cons (gStr h7) (.cons (gStr h8) (.cons (gInt h9) (.cons (gInt h10) (.cons (gStr h11) (.cons (gStr h12) (.cons (gStr h13) (.cons (gStr h14) (.cons (gInt h15) .nil)))))))))))))))
 ·cases h
theorem yF5y (x:G_Deed):(yrhy x).all D.plain = true:=rfl
theorem yD8y {U:Ty A} {cs:List (D A)} {x:G_Parts} (h:yo1y cs = some x):OkL U cs (yoQy x):=by
 unfold yo1y at h
 split at h
 ·simp only [Option.bind_eq_some_iff] at h
  obtain ⟨b1,h1,b2,h2,b3,h3,b4,h4,b5,h5,hx⟩:=h
  obtain rfl:=Option.some.inj hx
  exact (.cons (gStr h1) (.cons (gStr h2) (.cons (gStr h3) (.cons (gInt h4) (.cons (gStr h5) .nil)))))
 ·cases h
theorem yC2y (x:G_Parts):(yoQy x).all D.plain = true:=rfl
theorem yC1y {U:Ty A} {cs:List (D A)} {x:G_net_own} (h:yply cs = some x):OkL U cs (ypfy x):=by
 unfold yply at h
 split at h
 ·simp only [Option.bind_eq_some_iff] at h
  obtain ⟨b1,h1,b2,h2,hx⟩:=h
  obtain rfl:=Option.some.inj hx
  exact (.cons (gStr h1) (.cons (gInt h2) .nil))
 ·cases h
theorem yEmy (x:G_net_own):(ypfy x).all D.plain = true:=rfl
def TD:Ty A:=T.day
theorem decOk {U:Ty A}:∀ k cs x,decE k cs = some x→OkL U cs (encE k x):=by
 intro k cs x h
 cases k
 case e3=>exact yH9y h
 case e4=>exact yHXy h
 case e9=>exact yIXy h
 case e25=>exact yHAy h
 case e39=>exact yFFy h
 case e71=>exact yEUy h
 case e162=>exact yD8y h
 case e182=>exact yC1y h
 case no=>cases h
theorem tyOkD (P:Program):TyOk P TD:=⟨fun e x=>lenE (el e) x,fun e=>posE (el e),fun e cs x h=>by
 obtain ⟨h1,h2⟩:=decOk (U:=TD) (el e) cs x h
 exact ⟨h1.trans (lenE (el e) x),h2⟩⟩
theorem tyOk (P:Program):TyOk P T:=⟨fun e x=>lenE (el e) x,fun e=>posE (el e),fun e cs x h=>by
 obtain ⟨h1,h2⟩:=decOk (el e) cs x h
 exact ⟨h1.trans (lenE (el e) x),h2⟩⟩
def flatE:El→Bool
 | .e3=>true
 | .e4=>true
 | .e9=>true
 | .e25=>false
 | .e39=>true
 | .e71=>true
 | .e162=>true
 | .e182=>true
 | .no=>false
def flatT (e:Nat):Bool:=flatE (el e)
theorem yyKy:∀ k,flatE k = true→∀ x d,d∈encE k x→D.plain d = true:=by
 intro k h x d hd
 cases k
 case e3=>exact List.all_eq_true.1 (yIcy x) d hd
 case e4=>exact List.all_eq_true.1 (yIDy x) d hd
 case e9=>exact List.all_eq_true.1 (yIey x) d hd
 case e25=>cases h
 case e39=>exact List.all_eq_true.1 (yHgy x) d hd
 case e71=>exact List.all_eq_true.1 (yF5y x) d hd
 case e162=>exact List.all_eq_true.1 (yC2y x) d hd
 case e182=>exact List.all_eq_true.1 (yEmy x) d hd
 case no=>cases h
def yaky (x y:G_Contact):Bool:=(x.f_At == y.f_At&&(x.f_Mode == y.f_Mode&&(x.f_Band == y.f_Band&&(x.f_Call == y.f_Call&&(x.f_Sent == y.f_Sent&&(x.f_Heard == y.f_Heard&&(x.f_Gave == y.f_Gave&&(x.f_Got == y.f_Got&&true))))))))
def yaoy (x y:G_Deed):Bool:=(x.f_Site == y.f_Site&&(x.f_No == y.f_No&&(x.f_At == y.f_At&&(x.f_Kind == y.f_Kind&&((x.f_Contact.f_At == y.f_Contact.f_At&&(x.f_Contact.f_Mode == y.f_Contact.f_Mode&&(x.f_Contact.f_Band == y.f_Contact.f_Band&&(x.f_Contact.f_Call == y.f_Contact.f_Call&&(x.f_Contact.f_Sent == y.f_Contact.f_Sent&&(x.f_Contact.f_Heard == y.f_Contact.f_Heard&&(x.f_Contact.f_Gave == y.f_Contact.f_Gave&&(x.f_Contact.f_Got == y.f_Contact.f_Got&&true))))))))&&(x.f_Band == y.f_Band&&(x.f_Of == y.f_Of&&(x.f_Other == y.f_Other&&true))))))))
def ycjy (x:Int) (m:List (Int×Int)):Option Int:=getM T 3 3 x m
def yiky (x:Int) (m:List (Int×Int)):List (Int×Int):=delM T 3 3 x m
def ydVy (x:Int) (y:Int) (m:List (Int×Int)):List (Int×Int):=setM T 3 3 x y m
def yrGy (x y:Int):Bool:=(x == y&&true)
theorem mget_int_int_nil (x:Int):ycjy x [] = none:=by kernel_rfl
theorem mget_int_int_cons (x:Int) (p:Int×Int) (m:List (Int×Int)):ycjy x (p::m) = bif yrGy x p.1 then some p.2 else ycjy x m:=by kernel_rfl
theorem mdel_int_int_nil (x:Int):yiky x [] = []:=by kernel_rfl
theorem mdel_int_int_cons (x:Int) (p:Int×Int) (m:List (Int×Int)):yiky x (p::m) = bif yrGy x p.1 then m else p::yiky x m:=by kernel_rfl
theorem mset_int_int_nil (x:Int) (y:Int):ydVy x y [] = [(x,y)]:=by kernel_rfl
theorem mset_int_int_cons (x:Int) (y:Int) (p:Int×Int) (m:List (Int×Int)):ydVy x y (p::m) = bif yrGy x p.1 then (x,y)::m else p::ydVy x y m:=by kernel_rfl
def yaay (x:List UInt8) (m:List (List UInt8×Int)):Option Int:=getM T 9 3 x m
def yfIy (x:List UInt8) (m:List (List UInt8×Int)):List (List UInt8×Int):=delM T 9 3 x m
def yaby (x:List UInt8) (y:Int) (m:List (List UInt8×Int)):List (List UInt8×Int):=setM T 9 3 x y m
def ycby (x y:List UInt8):Bool:=(x == y&&true)
theorem ylRy (x:List UInt8):yaay x [] = none:=by kernel_rfl
theorem yk8y (x:List UInt8) (p:List UInt8×Int) (m:List (List UInt8×Int)):yaay x (p::m) = bif ycby x p.1 then some p.2 else yaay x m:=by kernel_rfl
theorem mdel_string_int_nil (x:List UInt8):yfIy x [] = []:=by kernel_rfl
theorem mdel_string_int_cons (x:List UInt8) (p:List UInt8×Int) (m:List (List UInt8×Int)):yfIy x (p::m) = bif ycby x p.1 then m else p::yfIy x m:=by kernel_rfl
theorem mset_string_int_nil (x:List UInt8) (y:Int):yaby x y [] = [(x,y)]:=by kernel_rfl
theorem mset_string_int_cons (x:List UInt8) (y:Int) (p:List UInt8×Int) (m:List (List UInt8×Int)):yaby x y (p::m) = bif ycby x p.1 then (x,y)::m else p::yaby x y m:=by kernel_rfl
def yaVy (x:G_Contact) (m:List (G_Contact×G_Deed)):Option G_Deed:=getM T 39 71 x m
def yegy (x:G_Contact) (m:List (G_Contact×G_Deed)):List (G_Contact×G_Deed):=delM T 39 71 x m
def ya9y (x:G_Contact) (y:G_Deed) (m:List (G_Contact×G_Deed)):List (G_Contact×G_Deed):=setM T 39 71 x y m
def yjpy (x y:G_Contact):Bool:=(x.f_At == y.f_At&&(x.f_Mode == y.f_Mode&&(x.f_Band == y.f_Band&&(x.f_Call == y.f_Call&&(x.f_Sent == y.f_Sent&&(x.f_Heard == y.f_Heard&&(x.f_Gave == y.f_Gave&&(x.f_Got == y.f_Got&&true))))))))
theorem mget_Contact_Deed_nil (x:G_Contact):yaVy x [] = none:=by kernel_rfl
theorem mget_Contact_Deed_cons (x:G_Contact) (p:G_Contact×G_Deed) (m:List (G_Contact×G_Deed)):yaVy x (p::m) = bif yjpy x p.1 then some p.2 else yaVy x m:=by kernel_rfl
theorem mdel_Contact_Deed_nil (x:G_Contact):yegy x [] = []:=by kernel_rfl
theorem mdel_Contact_Deed_cons (x:G_Contact) (p:G_Contact×G_Deed) (m:List (G_Contact×G_Deed)):yegy x (p::m) = bif yjpy x p.1 then m else p::yegy x m:=by kernel_rfl
theorem mset_Contact_Deed_nil (x:G_Contact) (y:G_Deed):ya9y x y [] = [(x,y)]:=by kernel_rfl
theorem mset_Contact_Deed_cons (x:G_Contact) (y:G_Deed) (p:G_Contact×G_Deed) (m:List (G_Contact×G_Deed)):ya9y x y (p::m) = bif yjpy x p.1 then (x,y)::m else p::ya9y x y m:=by kernel_rfl
def yaFy (x:G_net_own) (m:List (G_net_own×Bool)):Option Bool:=getM T 182 4 x m
def ya0y (x:G_net_own) (m:List (G_net_own×Bool)):List (G_net_own×Bool):=delM T 182 4 x m
def yaMy (x:G_net_own) (y:Bool) (m:List (G_net_own×Bool)):List (G_net_own×Bool):=setM T 182 4 x y m
def yaUy (x y:G_net_own):Bool:=(x.f_site == y.f_site&&(x.f_no == y.f_no&&true))
theorem mget_net_own_bool_nil (x:G_net_own):yaFy x [] = none:=by kernel_rfl
theorem mget_net_own_bool_cons (x:G_net_own) (p:G_net_own×Bool) (m:List (G_net_own×Bool)):yaFy x (p::m) = bif yaUy x p.1 then some p.2 else yaFy x m:=by kernel_rfl
theorem mdel_net_own_bool_nil (x:G_net_own):ya0y x [] = []:=by kernel_rfl
theorem mdel_net_own_bool_cons (x:G_net_own) (p:G_net_own×Bool) (m:List (G_net_own×Bool)):ya0y x (p::m) = bif yaUy x p.1 then m else p::ya0y x m:=by kernel_rfl
theorem mset_net_own_bool_nil (x:G_net_own) (y:Bool):yaMy x y [] = [(x,y)]:=by kernel_rfl
theorem mset_net_own_bool_cons (x:G_net_own) (y:Bool) (p:G_net_own×Bool) (m:List (G_net_own×Bool)):yaMy x y (p::m) = bif yaUy x p.1 then (x,y)::m else p::yaMy x y m:=by kernel_rfl
theorem ko_3x (x p:Int):eqT Tryz.prog 64 3 (yaWy T 3 x) (yaWy T 3 p) = some ((x:Int) == (p:Int)):=by kernel_rfl
theorem ko_3y (x p:Int):some (eqDs (T.enc 3 x) (T.enc 3 p)) = some ((x == p)&&true):=by kernel_rfl
theorem ko_3z (x p:Int):eqT Tryz.prog 64 3 (yaWy T 3 x) (yaWy T 3 p) = some (eqDs (T.enc 3 x) (T.enc 3 p)):=(ko_3x x p).trans (((congrArg some (Bool.and_true (x == p))).symm).trans (ko_3y x p).symm)
theorem ko_3:KeyOk Tryz.prog T 3:=fun x p=>ko_3z x p
theorem kd_3:∃ kd,Tryz.prog.underlying 3 = some kd:=Option.isSome_iff_exists.1 (by kernel_rfl)
theorem ko_9x (x p:List UInt8):eqT Tryz.prog 64 9 (yaWy T 9 x) (yaWy T 9 p) = some ((x:List UInt8) == (p:List UInt8)):=by kernel_rfl
theorem ko_9y (x p:List UInt8):some (eqDs (T.enc 9 x) (T.enc 9 p)) = some ((x == p)&&true):=by kernel_rfl
theorem ko_9z (x p:List UInt8):eqT Tryz.prog 64 9 (yaWy T 9 x) (yaWy T 9 p) = some (eqDs (T.enc 9 x) (T.enc 9 p)):=(ko_9x x p).trans (((congrArg some (Bool.and_true (x == p))).symm).trans (ko_9y x p).symm)
theorem ko_9:KeyOk Tryz.prog T 9:=fun x p=>ko_9z x p
theorem kd_9:∃ kd,Tryz.prog.underlying 9 = some kd:=Option.isSome_iff_exists.1 (by kernel_rfl)
theorem yICy (x p:G_Contact):eqT Tryz.prog 64 39 (yaWy T 39 x) (yaWy T 39 p) = some (eqDs (T.enc 39 x) (T.enc 39 p)):=by kernel_rfl
theorem ko_39:KeyOk Tryz.prog T 39:=by
 intro x p
 exact yICy x p
theorem kd_39:∃ kd,Tryz.prog.underlying 39 = some kd:=Option.isSome_iff_exists.1 (by kernel_rfl)
theorem yHdy (x p:G_net_own):eqT Tryz.prog 64 182 (yaWy T 182 x) (yaWy T 182 p) = some (eqDs (T.enc 182 x) (T.enc 182 p)):=by kernel_rfl
theorem yJGy:KeyOk Tryz.prog T 182:=by
 intro x p
 exact yHdy x p
theorem yHVy:∃ kd,Tryz.prog.underlying 182 = some kd:=Option.isSome_iff_exists.1 (by kernel_rfl)
def keyT (k:Nat):Bool:=k == 3 || k == 9 || k == 39 || k == 182
theorem yBHy:∀ k,keyT k = true→KeyOk Tryz.prog T k∧∃ kd,Tryz.prog.underlying k = some kd:=by
 intro k h
 simp only [keyT,Bool.or_eq_true,beq_iff_eq] at h
 rcases h with ((rfl | rfl) | rfl) | rfl
 ·exact ⟨ko_3,kd_3⟩
 ·exact ⟨ko_9,kd_9⟩
 ·exact ⟨ko_39,kd_39⟩
 ·exact ⟨yJGy,yHVy⟩
theorem yIhy:yemy T flatT:=fun e h x d hd=>yyKy (el e) h x d hd
theorem yI0y:SpOk Tryz.prog T 57 .bst:=spBst (ρ:=Tryz.lays169_ren) Tryz.lays169 Tryz.bx169 (by kernel_rfl) rfl (by kernel_rfl) (enters_of (fn:=Tryz.f57) Tryz.func57 (by kernel_rfl) (by kernel_rfl))
theorem yIIy:SpOk Tryz.prog T 56 .bln:=spBln (ρ:=Tryz.lays170_ren) Tryz.lays170 Tryz.bx170 (by kernel_rfl) (by kernel_rfl) (enters_of (fn:=Tryz.f56) Tryz.func56 (by kernel_rfl) (by kernel_rfl))
theorem yHYy:SpOk Tryz.prog T 54 .bwr:=spBwr (ρ:=Tryz.lays156_ren) { Tryz.lays156 with } Tryz.bx156 (by kernel_rfl) rfl (by kernel_rfl) (enters_of (fn:=Tryz.f54) Tryz.func54 (by kernel_rfl) (by kernel_rfl))
def spT:List (Nat×Sp A):=[(54,.bwr),(56,.bln),(57,.bst)]
theorem spAll:SpAll Tryz.prog T spT:=.cons yHYy (.cons yIIy (.cons yI0y (.nil)))
theorem std:Std Tryz.prog T keyT flatT (fun f=>spT.lookup f):=⟨tyOk Tryz.prog,yIhy,yBHy,spAll.ok,by kernel_rfl⟩
abbrev Ok (f:Nat) (S:Spec A):Prop:=OkF Tryz.prog T f S
theorem stdD:Std Tryz.prog TD keyT flatT (fun _=>none):=⟨tyOkD Tryz.prog,fun e h x d hd=>yyKy (el e) h x d hd,yBHy,fun _ _ h=>(by cases h),by kernel_rfl⟩
abbrev OkD (f:Nat) (S:Spec A):Prop:=OkF Tryz.prog TD f S
noncomputable def mkE (C:List (Nat×Spec A)) (tg:List (Nat×List Nat)) (lh xh:List (Nat×Hint)) (cl:List (Nat×Piece A)) (sh xs:List (Nat×Hint)) (cs:List (Nat×Piece A)) (md:List (Nat×Nat)) (pin:List Nat):Env A :=
 { P:=Tryz.prog,T:=T,C:=fun f=>C.lookup f,tg:=fun d=>(tg.lookup d).getD [],seqH:=fun i=>sh.lookup i,loopH:=fun i=>lh.lookup i,exitH:=fun i=>xh.lookup i,exitS:=fun i=>xs.lookup i,cutS:=fun i=>cs.lookup i,cutL:=fun i=>cl.lookup i,mode:=fun f i=>md.contains (f,i),sp:=fun f=>spT.lookup f,keyed:=keyT,flat:=flatT,pin:=pin }
noncomputable def mkED (C:List (Nat×Spec A)) (tg:List (Nat×List Nat)) (lh xh:List (Nat×Hint)) (cl:List (Nat×Piece A)) (sh xs:List (Nat×Hint)) (cs:List (Nat×Piece A)) (md:List (Nat×Nat)) (pin:List Nat):Env A :=
 { P:=Tryz.prog,T:=TD,C:=fun f=>C.lookup f,tg:=fun d=>(tg.lookup d).getD [],seqH:=fun i=>sh.lookup i,loopH:=fun i=>lh.lookup i,exitH:=fun i=>xh.lookup i,exitS:=fun i=>xs.lookup i,cutS:=fun i=>cs.lookup i,cutL:=fun i=>cl.lookup i,mode:=fun f i=>md.contains (f,i),keyed:=keyT,flat:=flatT,pin:=pin }
end Go.Am
