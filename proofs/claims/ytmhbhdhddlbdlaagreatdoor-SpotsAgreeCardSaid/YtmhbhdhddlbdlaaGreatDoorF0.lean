/- The functions of the program as Lean functions, each shown to be what the code computes, part 0. No condition: lemmas for the claim. -/
import Derived.Test.YtmhbhdhddlbdlaaGreatDoorAmPrint
import Derived.Test.YtmhbhdhddlbdlaaGreatDoorAmBld
import Derived.Test.YtmhbhdhddlbdlaaGreatDoorFSh
import Derived.Test.YtmhbhdhddlbdlaaGreatDoorAmIn
import Derived.Test.YtmhbhdhddlbdlaaGreatDoorProg
import Derived.KernelRfl
set_option linter.unusedVariables false
set_option maxRecDepth 100000
namespace Go.Am
open Go Go.Proofs
structure G_Stream where
 f_L:List Int
 f_at:Int
 deriving DecidableEq
structure G_Spot where
 f_At:Int
 f_Hertz:Int
 f_Call:List UInt8
 f_By:List UInt8
 deriving DecidableEq
structure G_Contact where
 f_At:Int
 f_Mode:Int
 f_Band:List UInt8
 f_Call:List UInt8
 f_Sent:Int
 f_Heard:Int
 f_Gave:List UInt8
 f_Got:List UInt8
 deriving DecidableEq
structure G_Deed where
 f_Site:List UInt8
 f_No:Int
 f_At:Int
 f_Kind:Int
 f_Contact:G_Contact
 f_Band:List UInt8
 f_Of:List UInt8
 f_Other:Int
 deriving DecidableEq
structure G_Window where
 f_From:Int
 f_To:Int
 deriving DecidableEq
structure G_Segment where
 f_Class:List UInt8
 f_Low:Int
 f_High:Int
 f_Modes:List Int
 f_Time:G_Window
 deriving DecidableEq
structure G_Entrant where
 f_Call:List UInt8
 f_Category:List UInt8
 f_Points:Int
 f_Locator:List UInt8
 deriving DecidableEq
structure G_net_own where
 f_site:List UInt8
 f_no:Int
 deriving DecidableEq
structure G_Row where
 f_From:Int
 f_To:Int
 deriving DecidableEq
structure G_Place where
 f_Rank:Int
 f_Points:Int
 f_Key:List UInt8
 deriving DecidableEq
structure G_Parts where
 f_Base:List UInt8
 f_Prefix:List UInt8
 f_Suffix:List UInt8
 f_Kind:Int
 f_Added:List UInt8
 deriving DecidableEq
structure G_log_worked where
 f_base:List UInt8
 f_band:List UInt8
 f_mode:Int
 deriving DecidableEq
inductive El where
 | e3 | e4 | e9 | e25 | e26 | e32 | e33 | e49 | e51 | e90 | e92 | e98 | e107 | e134 | e142 | e170 | e195 | no
def el:Nat→El
 | 3=>.e3
 | 4=>.e4
 | 9=>.e9
 | 25=>.e25
 | 26=>.e26
 | 32=>.e32
 | 33=>.e33
 | 49=>.e49
 | 51=>.e51
 | 90=>.e90
 | 92=>.e92
 | 98=>.e98
 | 107=>.e107
 | 134=>.e134
 | 142=>.e142
 | 170=>.e170
 | 195=>.e195
 | _=>.no
def AE:El→Type
 | .e3=>Int
 | .e4=>Bool
 | .e9=>List UInt8
 | .e25=>G_Stream
 | .e26=>List G_Spot
 | .e32=>G_Spot
 | .e33=>Int
 | .e49=>G_Contact
 | .e51=>G_Deed
 | .e90=>G_Window
 | .e92=>G_Segment
 | .e98=>G_Entrant
 | .e107=>G_net_own
 | .e134=>G_Row
 | .e142=>G_Place
 | .e170=>G_Parts
 | .e195=>G_log_worked
 | .no=>Unit
abbrev A (e:Nat):Type:=AE (el e)
def sizeE:El→Nat
 | .e3=>1
 | .e4=>1
 | .e9=>1
 | .e25=>2
 | .e26=>1
 | .e32=>4
 | .e33=>1
 | .e49=>8
 | .e51=>15
 | .e90=>2
 | .e92=>6
 | .e98=>4
 | .e107=>2
 | .e134=>2
 | .e142=>3
 | .e170=>5
 | .e195=>3
 | .no=>1
def yuIy (x:Int):List (D A):=[.int .i64 x]
def yvFy (cs:List (D A)):Option (Int):=match cs with | [c0]=>(dInt .i64 c0).bind fun b1=>some b1 | _=>none
def yvYy (x:Bool):List (D A):=[.bool x]
def ywky (cs:List (D A)):Option (Bool):=match cs with | [c0]=>(dBool c0).bind fun b1=>some b1 | _=>none
def yxjy (x:List UInt8):List (D A):=[.str x]
def yt7y (cs:List (D A)):Option (List UInt8):=match cs with | [c0]=>(dStr c0).bind fun b1=>some b1 | _=>none
def yzhy (x:G_Stream):List (D A):=[.sl 3 x.f_L,.int .i64 x.f_at]
def yrBy (cs:List (D A)):Option (G_Stream):=match cs with | [c0,c1]=>(dSl 3 c0).bind fun b1=>(dInt .i64 c1).bind fun b2=>some ⟨b1,b2⟩ | _=>none
def yzsy (x:List G_Spot):List (D A):=[.sl 32 x]
def yrXy (cs:List (D A)):Option (List G_Spot):=match cs with | [c0]=>(dSl 32 c0).bind fun b1=>some b1 | _=>none
def ynAy (x:G_Spot):List (D A):=[.int .i64 x.f_At,.int .i64 x.f_Hertz,.str x.f_Call,.str x.f_By]
def yrCy (cs:List (D A)):Option (G_Spot):=match cs with | [c0,c1,c2,c3]=>(dInt .i64 c0).bind fun b1=>(dInt .i64 c1).bind fun b2=>(dStr c2).bind fun b3=>(dStr c3).bind fun b4=>some ⟨b1,b2,b3,b4⟩ | _=>none
def yrQy (x:Int):List (D A):=[.int .i64 x]
def yrZy (cs:List (D A)):Option (Int):=match cs with | [c0]=>(dInt .i64 c0).bind fun b1=>some b1 | _=>none
def ynVy (x:G_Contact):List (D A):=[.int .i64 x.f_At,.int .i64 x.f_Mode,.str x.f_Band,.str x.f_Call,.int .i64 x.f_Sent,.int .i64 x.f_Heard,.str x.f_Gave,.str x.f_Got]
def yrYy (cs:List (D A)):Option (G_Contact):=match cs with | [c0,c1,c2,c3,c4,c5,c6,c7]=>(dInt .i64 c0).bind fun b1=>(dInt .i64 c1).bind fun b2=>(dStr c2).bind fun b3=>(dStr c3).bind fun b4=>(dInt .i64 c4).bind fun b5=>(dInt .i64 c5).bind fun b6=>(dStr c6).bind fun b7=>(dStr c7).bind fun b8=>some ⟨b1,b2,b3,b4,b5,b6,b7,b8⟩ | _=>none
def yrEy (x:G_Deed):List (D A):=[.str x.f_Site,.int .i64 x.f_No,.int .i64 x.f_At,.int .i64 x.f_Kind,.int .i64 x.f_Contact.f_At,.int .i64 x.f_Contact.f_Mode,.str x.f_Contact.f_Band,.str x.f_Contact.f_Call,.int .i64 x.f_Contact.f_Sent,.int .i64 x.f_Contact.f_Heard,.str x.f_Contact.f_Gave,.str x.f_Contact.f_Got,.str x.f_Band,.str x.f_Of,.int .i64 x.f_Other]
def yrzy (cs:List (D A)):Option (G_Deed):=match cs with | [c0,c1,c2,c3,c4,c5,c6,c7,c8,c9,c10,c11,c12,c13,c14]=>(dStr c0).bind fun b1=>(dInt .i64 c1).bind fun b2=>(dInt .i64 c2).bind fun b3=>(dInt .i64 c3).bind fun b4=>(dInt .i64 c4).bind fun b5=>(dInt .i64 c5).bind fun b6=>(dStr c6).bind fun b7=>(dStr c7).bind fun b8=>(dInt .i64 c8).bind fun b9=>(dInt .i64 c9).bind fun b10=>(dStr c10).bind fun b11=>(dStr c11).bind fun b12=>(dStr c12).bind fun b13=>(dStr c13).bind fun b14=>(dInt .i64 c14).bind fun b15=>some ⟨b1,b2,b3,b4,⟨b5,b6,b7,b8,b9,b10,b11,b12⟩,b13,b14,b15⟩ | _=>none
def yrPy (x:G_Window):List (D A):=[.int .i64 x.f_From,.int .i64 x.f_To]
def yr1y (cs:List (D A)):Option (G_Window):=match cs with | [c0,c1]=>(dInt .i64 c0).bind fun b1=>(dInt .i64 c1).bind fun b2=>some ⟨b1,b2⟩ | _=>none
def yyRy (x:G_Segment):List (D A):=[.str x.f_Class,.int .i64 x.f_Low,.int .i64 x.f_High,.sl 3 x.f_Modes,.int .i64 x.f_Time.f_From,.int .i64 x.f_Time.f_To]
def yrTy (cs:List (D A)):Option (G_Segment):=match cs with | [c0,c1,c2,c3,c4,c5]=>(dStr c0).bind fun b1=>(dInt .i64 c1).bind fun b2=>(dInt .i64 c2).bind fun b3=>(dSl 3 c3).bind fun b4=>(dInt .i64 c4).bind fun b5=>(dInt .i64 c5).bind fun b6=>some ⟨b1,b2,b3,b4,⟨b5,b6⟩⟩ | _=>none
def yrOy (x:G_Entrant):List (D A):=[.str x.f_Call,.str x.f_Category,.int .i64 x.f_Points,.str x.f_Locator]
def ysfy (cs:List (D A)):Option (G_Entrant):=match cs with | [c0,c1,c2,c3]=>(dStr c0).bind fun b1=>(dStr c1).bind fun b2=>(dInt .i64 c2).bind fun b3=>(dStr c3).bind fun b4=>some ⟨b1,b2,b3,b4⟩ | _=>none
def yo8y (x:G_net_own):List (D A):=[.str x.f_site,.int .i64 x.f_no]
def yoXy (cs:List (D A)):Option (G_net_own):=match cs with | [c0,c1]=>(dStr c0).bind fun b1=>(dInt .i64 c1).bind fun b2=>some ⟨b1,b2⟩ | _=>none
def ykOy (x:G_Row):List (D A):=[.int .i64 x.f_From,.int .i64 x.f_To]
def yoPy (cs:List (D A)):Option (G_Row):=match cs with | [c0,c1]=>(dInt .i64 c0).bind fun b1=>(dInt .i64 c1).bind fun b2=>some ⟨b1,b2⟩ | _=>none
def ykay (x:G_Place):List (D A):=[.int .i64 x.f_Rank,.int .i64 x.f_Points,.str x.f_Key]
def yoIy (cs:List (D A)):Option (G_Place):=match cs with | [c0,c1,c2]=>(dInt .i64 c0).bind fun b1=>(dInt .i64 c1).bind fun b2=>(dStr c2).bind fun b3=>some ⟨b1,b2,b3⟩ | _=>none
def ypdy (x:G_Parts):List (D A):=[.str x.f_Base,.str x.f_Prefix,.str x.f_Suffix,.int .i64 x.f_Kind,.str x.f_Added]
def yoVy (cs:List (D A)):Option (G_Parts):=match cs with | [c0,c1,c2,c3,c4]=>(dStr c0).bind fun b1=>(dStr c1).bind fun b2=>(dStr c2).bind fun b3=>(dInt .i64 c3).bind fun b4=>(dStr c4).bind fun b5=>some ⟨b1,b2,b3,b4,b5⟩ | _=>none
def ypfy (x:G_log_worked):List (D A):=[.str x.f_base,.str x.f_band,.int .i64 x.f_mode]
def yoxy (cs:List (D A)):Option (G_log_worked):=match cs with | [c0,c1,c2]=>(dStr c0).bind fun b1=>(dStr c1).bind fun b2=>(dInt .i64 c2).bind fun b3=>some ⟨b1,b2,b3⟩ | _=>none
def encE:(k:El)→AE k→List (D A)
 | .e3,x=>yuIy x
 | .e4,x=>yvYy x
 | .e9,x=>yxjy x
 | .e25,x=>yzhy x
 | .e26,x=>yzsy x
 | .e32,x=>ynAy x
 | .e33,x=>yrQy x
 | .e49,x=>ynVy x
 | .e51,x=>yrEy x
 | .e90,x=>yrPy x
 | .e92,x=>yyRy x
 | .e98,x=>yrOy x
 | .e107,x=>yo8y x
 | .e134,x=>ykOy x
 | .e142,x=>ykay x
 | .e170,x=>ypdy x
 | .e195,x=>ypfy x
 | .no,_=>[.nilif]
def decE:(k:El)→List (D A)→Option (AE k)
 | .e3,cs=>yvFy cs
 | .e4,cs=>ywky cs
 | .e9,cs=>yt7y cs
 | .e25,cs=>yrBy cs
 | .e26,cs=>yrXy cs
 | .e32,cs=>yrCy cs
 | .e33,cs=>yrZy cs
 | .e49,cs=>yrYy cs
 | .e51,cs=>yrzy cs
 | .e90,cs=>yr1y cs
 | .e92,cs=>yrTy cs
 | .e98,cs=>ysfy cs
 | .e107,cs=>yoXy cs
 | .e134,cs=>yoPy cs
 | .e142,cs=>yoIy cs
 | .e170,cs=>yoVy cs
 | .e195,cs=>yoxy cs
 | .no,_=>none
def aggE:El→Bool
 | .e3=>false
 | .e4=>false
 | .e9=>false
 | .e25=>true
 | .e26=>false
 | .e32=>true
 | .e33=>false
 | .e49=>true
 | .e51=>true
 | .e90=>true
 | .e92=>true
 | .e98=>true
 | .e107=>true
 | .e134=>true
 | .e142=>true
 | .e170=>true
 | .e195=>true
 | .no=>false
theorem tabg:Tryz.prog.globalNamed "internal/strconv.uint64pow10" = some 1:=by kernel_rfl
def T:Ty A where
 size:=fun e=>sizeE (el e)
 enc:=fun e x=>encE (el e) x
 dec:=fun e cs=>decE (el e) cs
 agg:=fun e=>aggE (el e)
 bld:=some (70,5)
 fix:=[1]
 amb:=fun w=>Lib.TabIs Tryz.prog w "internal/strconv.uint64pow10" .u64 Lib.pow10Tab
 ambOk:=yGSy tabg
theorem lenE:∀ k x,(encE k x).length = sizeE k:=by intro k x; cases k <;> rfl
theorem posE:∀ k,0 < sizeE k:=by intro k; cases k <;> decide
theorem yKKy {U:Ty A} {cs:List (D A)} {x:Int} (h:yvFy cs = some x):OkL U cs (yuIy x):=by
 unfold yvFy at h
 split at h
 ·simp only [Option.bind_eq_some_iff] at h
  obtain ⟨b1,h1,hx⟩:=h
  obtain rfl:=Option.some.inj hx
  exact (.cons (gInt h1) .nil)
 ·cases h
theorem yLHy (x:Int):(yuIy x).all D.plain = true:=rfl
theorem yKay {U:Ty A} {cs:List (D A)} {x:Bool} (h:ywky cs = some x):OkL U cs (yvYy x):=by
 unfold ywky at h
 split at h
 ·simp only [Option.bind_eq_some_iff] at h
  obtain ⟨b1,h1,hx⟩:=h
  obtain rfl:=Option.some.inj hx
  exact (.cons (gBool h1) .nil)
 ·cases h
theorem yKzy (x:Bool):(yvYy x).all D.plain = true:=rfl
theorem yKXy {U:Ty A} {cs:List (D A)} {x:List UInt8} (h:yt7y cs = some x):OkL U cs (yxjy x):=by
 unfold yt7y at h
 split at h
 ·simp only [Option.bind_eq_some_iff] at h
  obtain ⟨b1,h1,hx⟩:=h
  obtain rfl:=Option.some.inj hx
  exact (.cons (gStr h1) .nil)
 ·cases h
theorem yKZy (x:List UInt8):(yxjy x).all D.plain = true:=rfl
theorem yGcy {U:Ty A} {cs:List (D A)} {x:G_Stream} (h:yrBy cs = some x):OkL U cs (yzhy x):=by
 unfold yrBy at h
 split at h
 ·simp only [Option.bind_eq_some_iff] at h
  obtain ⟨b1,h1,b2,h2,hx⟩:=h
  obtain rfl:=Option.some.inj hx
  exact (.cons (gSl h1) (.cons (gInt h2) .nil))
 ·cases h
theorem yH0y {U:Ty A} {cs:List (D A)} {x:List G_Spot} (h:yrXy cs = some x):OkL U cs (yzsy x):=by
 unfold yrXy at h
 split at h
 ·simp only [Option.bind_eq_some_iff] at h
  obtain ⟨b1,h1,hx⟩:=h
  obtain rfl:=Option.some.inj hx
  exact (.cons (gSl h1) .nil)
 ·cases h
theorem yJDy {U:Ty A} {cs:List (D A)} {x:G_Spot} (h:yrCy cs = some x):OkL U cs (ynAy x):=by
 unfold yrCy at h
 split at h
 ·simp only [Option.bind_eq_some_iff] at h
  obtain ⟨b1,h1,b2,h2,b3,h3,b4,h4,hx⟩:=h
  obtain rfl:=Option.some.inj hx
  exact (.cons (gInt h1) (.cons (gInt h2) (.cons (gStr h3) (.cons (gStr h4) .nil))))
 ·cases h
theorem yGoy (x:G_Spot):(ynAy x).all D.plain = true:=rfl
theorem yGvy {U:Ty A} {cs:List (D A)} {x:Int} (h:yrZy cs = some x):OkL U cs (yrQy x):=by
 unfold yrZy at h
 split at h
 ·simp only [Option.bind_eq_some_iff] at h
  obtain ⟨b1,h1,hx⟩:=h
  obtain rfl:=Option.some.inj hx
  exact (.cons (gInt h1) .nil)
 ·cases h
theorem yIDy (x:Int):(yrQy x).all D.plain = true:=rfl
theorem yGmy {U:Ty A} {cs:List (D A)} {x:G_Contact} (h:yrYy cs = some x):OkL U cs (ynVy x):=by
 unfold yrYy at h
 split at h
 ·simp only [Option.bind_eq_some_iff] at h
  obtain ⟨b1,h1,b2,h2,b3,h3,b4,h4,b5,h5,b6,h6,b7,h7,b8,h8,hx⟩:=h
  obtain rfl:=Option.some.inj hx
  exact (.cons (gInt h1) (.cons (gInt h2) (.cons (gStr h3) (.cons (gStr h4) (.cons (gInt h5) (.cons (gInt h6) (.cons (gStr h7) (.cons (gStr h8) .nil))))))))
 ·cases h
theorem yF1y (x:G_Contact):(ynVy x).all D.plain = true:=rfl
theorem yJcy {U:Ty A} {cs:List (D A)} {x:G_Deed} (h:yrzy cs = some x):OkL U cs (yrEy x):=by
 unfold yrzy at h
 split at h
 ·simp only [Option.bind_eq_some_iff] at h
  obtain ⟨b1,h1,b2,h2,b3,h3,b4,h4,b5,h5,b6,h6,b7,h7,b8,h8,b9,h9,b10,h10,b11,h11,b12,h12,b13,h13,b14,h14,b15,h15,hx⟩:=h
  obtain rfl:=Option.some.inj hx
  exact (.cons (gStr h1) (.cons (gInt h2) (.cons (gInt h3) (.cons (gInt h4) (.cons (gInt h5) (.cons (gInt h6) (.cons (gStr h7) (.cons (gStr h8) (.cons (gInt h9) (.cons (gInt h10) (.cons (gStr h11) (.cons (gStr h12) (.cons (gStr h13) (.cons (gStr h14) (.cons (gInt h15) .nil)))))))))))))))
 ·cases h
theorem yIsy (x:G_Deed):(yrEy x).all D.plain = true:=rfl
theorem yG1y {U:Ty A} {cs:List (D A)} {x:G_Window} (h:yr1y cs = some x):OkL U cs (yrPy x):=by
 unfold yr1y at h
 split at h
 ·simp only [Option.bind_eq_some_iff] at h
  obtain ⟨b1,h1,b2,h2,hx⟩:=h
  obtain rfl:=Option.some.inj hx
  exact (.cons (gInt h1) (.cons (gInt h2) .nil))
 ·cases h
theorem yJSy (x:G_Window):(yrPy x).all D.plain = true:=rfl
theorem yIXy {U:Ty A} {cs:List (D A)} {x:G_Segment} (h:yrTy cs = some x):OkL U cs (yyRy x):=by
 unfold yrTy at h
 split at h
 ·simp only [Option.bind_eq_some_iff] at h
  obtain ⟨b1,h1,b2,h2,b3,h3,b4,h4,b5,h5,b6,h6,hx⟩:=h
  obtain rfl:=Option.some.inj hx
  exact (.cons (gStr h1) (.cons (gInt h2) (.cons (gInt h3) (.cons (gSl h4) (.cons (gInt h5) (.cons (gInt h6) .nil))))))
 ·cases h
theorem yHVy {U:Ty A} {cs:List (D A)} {x:G_Entrant} (h:ysfy cs = some x):OkL U cs (yrOy x):=by
 unfold ysfy at h
 split at h
 ·simp only [Option.bind_eq_some_iff] at h
  obtain ⟨b1,h1,b2,h2,b3,h3,b4,h4,hx⟩:=h
  obtain rfl:=Option.some.inj hx
  exact (.cons (gStr h1) (.cons (gStr h2) (.cons (gInt h3) (.cons (gStr h4) .nil))))
 ·cases h
theorem yHoy (x:G_Entrant):(yrOy x).all D.plain = true:=rfl
theorem yFly {U:Ty A} {cs:List (D A)} {x:G_net_own} (h:yoXy cs = some x):OkL U cs (yo8y x):=by
 unfold yoXy at h
 split at h
 ·simp only [Option.bind_eq_some_iff] at h
  obtain ⟨b1,h1,b2,h2,hx⟩:=h
  obtain rfl:=Option.some.inj hx
  exact (.cons (gStr h1) (.cons (gInt h2) .nil))
 ·cases h
theorem yFry (x:G_net_own):(yo8y x).all D.plain = true:=rfl
theorem yEHy {U:Ty A} {cs:List (D A)} {x:G_Row} (h:yoPy cs = some x):OkL U cs (ykOy x):=by
 unfold yoPy at h
 split at h
 ·simp only [Option.bind_eq_some_iff] at h
  obtain ⟨b1,h1,b2,h2,hx⟩:=h
  obtain rfl:=Option.some.inj hx
  exact (.cons (gInt h1) (.cons (gInt h2) .nil))
 ·cases h
theorem yFVy (x:G_Row):(ykOy x).all D.plain = true:=rfl
theorem yFJy {U:Ty A} {cs:List (D A)} {x:G_Place} (h:yoIy cs = some x):OkL U cs (ykay x):=by
 unfold yoIy at h
 split at h
 ·simp only [Option.bind_eq_some_iff] at h
  obtain ⟨b1,h1,b2,h2,b3,h3,hx⟩:=h
  obtain rfl:=Option.some.inj hx
  exact (.cons (gInt h1) (.cons (gInt h2) (.cons (gStr h3) .nil)))
 ·cases h
theorem yFHy (x:G_Place):(ykay x).all D.plain = true:=rfl
theorem yFfy {U:Ty A} {cs:List (D A)} {x:G_Parts} (h:yoVy cs = some x):OkL U cs (ypdy x):=by
 unfold yoVy at h
 split at h
 ·simp only [Option.bind_eq_some_iff] at h
  obtain ⟨b1,h1,b2,h2,b3,h3,b4,h4,b5,h5,hx⟩:=h
  obtain rfl:=Option.some.inj hx
  exact (.cons (gStr h1) (.cons (gStr h2) (.cons (gStr h3) (.cons (gInt h4) (.cons (gStr h5) .nil)))))
 ·cases h
theorem yEgy (x:G_Parts):(ypdy x).all D.plain = true:=rfl
theorem yFey {U:Ty A} {cs:List (D A)} {x:G_log_worked} (h:yoxy cs = some x):OkL U cs (ypfy x):=by
 unfold yoxy at h
 split at h
 ·simp only [Option.bind_eq_some_iff] at h
  obtain ⟨b1,h1,b2,h2,b3,h3,hx⟩:=h
  obtain rfl:=Option.some.inj hx
  exact (.cons (gStr h1) (.cons (gStr h2) (.cons (gInt h3) .nil)))
 ·cases h
theorem yFiy (x:G_log_worked):(ypfy x).all D.plain = true:=rfl
def TD:Ty A:=T.day
theorem decOk {U:Ty A}:∀ k cs x,decE k cs = some x→OkL U cs (encE k x):=by
 intro k cs x h
 cases k
 case e3=>exact yKKy h
 case e4=>exact yKay h
 case e9=>exact yKXy h
 case e25=>exact yGcy h
 case e26=>exact yH0y h
 case e32=>exact yJDy h
 case e33=>exact yGvy h
 case e49=>exact yGmy h
 case e51=>exact yJcy h
 case e90=>exact yG1y h
 case e92=>exact yIXy h
 case e98=>exact yHVy h
 case e107=>exact yFly h
 case e134=>exact yEHy h
 case e142=>exact yFJy h
 case e170=>exact yFfy h
 case e195=>exact yFey h
 case no=>cases h
theorem tyOkD (P:Program):TyOk P TD:=⟨fun e x=>lenE (el e) x,fun e=>posE (el e),fun e cs x h=>by
 obtain ⟨h1,h2⟩:=decOk (U:=TD) (el e) cs x h
 exact ⟨h1.trans (lenE (el e) x),h2⟩⟩
theorem tyOk (P:Program):TyOk P T:=⟨fun e x=>lenE (el e) x,fun e=>posE (el e),fun e cs x h=>by
 obtain ⟨h1,h2⟩:=decOk (el e) cs x h
 exact ⟨h1.trans (lenE (el e) x),h2⟩⟩
def flatE:El→Bool
 | .e3=>true
 | .e4=>true
 | .e9=>true
 | .e25=>false
 | .e26=>false
 | .e32=>true
 | .e33=>true
 | .e49=>true
 | .e51=>true
 | .e90=>true
 | .e92=>false
 | .e98=>true
 | .e107=>true
 | .e134=>true
 | .e142=>true
 | .e170=>true
 | .e195=>true
 | .no=>false
def flatT (e:Nat):Bool:=flatE (el e)
theorem yzXy:∀ k,flatE k = true→∀ x d,d ∈ encE k x→D.plain d = true:=by
 intro k h x d hd
 cases k
 case e3=>exact List.all_eq_true.1 (yLHy x) d hd
 case e4=>exact List.all_eq_true.1 (yKzy x) d hd
 case e9=>exact List.all_eq_true.1 (yKZy x) d hd
 case e25=>cases h
 case e26=>cases h
 case e32=>exact List.all_eq_true.1 (yGoy x) d hd
 case e33=>exact List.all_eq_true.1 (yIDy x) d hd
 case e49=>exact List.all_eq_true.1 (yF1y x) d hd
 case e51=>exact List.all_eq_true.1 (yIsy x) d hd
 case e90=>exact List.all_eq_true.1 (yJSy x) d hd
 case e92=>cases h
 case e98=>exact List.all_eq_true.1 (yHoy x) d hd
 case e107=>exact List.all_eq_true.1 (yFry x) d hd
 case e134=>exact List.all_eq_true.1 (yFVy x) d hd
 case e142=>exact List.all_eq_true.1 (yFHy x) d hd
 case e170=>exact List.all_eq_true.1 (yEgy x) d hd
 case e195=>exact List.all_eq_true.1 (yFiy x) d hd
 case no=>cases h
def yaZy (x y:G_Spot):Bool:=(x.f_At == y.f_At && (x.f_Hertz == y.f_Hertz && (x.f_Call == y.f_Call && (x.f_By == y.f_By && true))))
def yh7y (x y:G_Contact):Bool:=(x.f_At == y.f_At && (x.f_Mode == y.f_Mode && (x.f_Band == y.f_Band && (x.f_Call == y.f_Call && (x.f_Sent == y.f_Sent && (x.f_Heard == y.f_Heard && (x.f_Gave == y.f_Gave && (x.f_Got == y.f_Got && true))))))))
def yb6y (x:Int) (m:List (Int×Int)):Option Int:=getM T 3 3 x m
def yhMy (x:Int) (m:List (Int×Int)):List (Int×Int):=delM T 3 3 x m
def ydny (x:Int) (y:Int) (m:List (Int×Int)):List (Int×Int):=setM T 3 3 x y m
def ysiy (x y:Int):Bool:=(x == y && true)
theorem mget_int_int_nil (x:Int):yb6y x [] = none:=by kernel_rfl
theorem mget_int_int_cons (x:Int) (p:Int×Int) (m:List (Int×Int)):yb6y x (p :: m) = bif ysiy x p.1 then some p.2 else yb6y x m:=by kernel_rfl
theorem mdel_int_int_nil (x:Int):yhMy x [] = []:=by kernel_rfl
theorem mdel_int_int_cons (x:Int) (p:Int×Int) (m:List (Int×Int)):yhMy x (p :: m) = bif ysiy x p.1 then m else p :: yhMy x m:=by kernel_rfl
theorem mset_int_int_nil (x:Int) (y:Int):ydny x y [] = [(x,y)]:=by kernel_rfl
theorem mset_int_int_cons (x:Int) (y:Int) (p:Int×Int) (m:List (Int×Int)):ydny x y (p :: m) = bif ysiy x p.1 then (x,y) :: m else p :: ydny x y m:=by kernel_rfl
def yaHy (x:G_Contact) (m:List (G_Contact×G_Deed)):Option G_Deed:=getM T 49 51 x m
def ydIy (x:G_Contact) (m:List (G_Contact×G_Deed)):List (G_Contact×G_Deed):=delM T 49 51 x m
def ya1y (x:G_Contact) (y:G_Deed) (m:List (G_Contact×G_Deed)):List (G_Contact×G_Deed):=setM T 49 51 x y m
def yi2y (x y:G_Contact):Bool:=(x.f_At == y.f_At && (x.f_Mode == y.f_Mode && (x.f_Band == y.f_Band && (x.f_Call == y.f_Call && (x.f_Sent == y.f_Sent && (x.f_Heard == y.f_Heard && (x.f_Gave == y.f_Gave && (x.f_Got == y.f_Got && true))))))))
theorem mget_Contact_Deed_nil (x:G_Contact):yaHy x [] = none:=by kernel_rfl
theorem mget_Contact_Deed_cons (x:G_Contact) (p:G_Contact×G_Deed) (m:List (G_Contact×G_Deed)):yaHy x (p :: m) = bif yi2y x p.1 then some p.2 else yaHy x m:=by kernel_rfl
theorem mdel_Contact_Deed_nil (x:G_Contact):ydIy x [] = []:=by kernel_rfl
theorem mdel_Contact_Deed_cons (x:G_Contact) (p:G_Contact×G_Deed) (m:List (G_Contact×G_Deed)):ydIy x (p :: m) = bif yi2y x p.1 then m else p :: ydIy x m:=by kernel_rfl
theorem mset_Contact_Deed_nil (x:G_Contact) (y:G_Deed):ya1y x y [] = [(x,y)]:=by kernel_rfl
theorem mset_Contact_Deed_cons (x:G_Contact) (y:G_Deed) (p:G_Contact×G_Deed) (m:List (G_Contact×G_Deed)):ya1y x y (p :: m) = bif yi2y x p.1 then (x,y) :: m else p :: ya1y x y m:=by kernel_rfl
def ybRy (x:G_net_own) (m:List (G_net_own×Bool)):Option Bool:=getM T 107 4 x m
def yaLy (x:G_net_own) (m:List (G_net_own×Bool)):List (G_net_own×Bool):=delM T 107 4 x m
def ya0y (x:G_net_own) (y:Bool) (m:List (G_net_own×Bool)):List (G_net_own×Bool):=setM T 107 4 x y m
def yiQy (x y:G_net_own):Bool:=(x.f_site == y.f_site && (x.f_no == y.f_no && true))
theorem mget_net_own_bool_nil (x:G_net_own):ybRy x [] = none:=by kernel_rfl
theorem mget_net_own_bool_cons (x:G_net_own) (p:G_net_own×Bool) (m:List (G_net_own×Bool)):ybRy x (p :: m) = bif yiQy x p.1 then some p.2 else ybRy x m:=by kernel_rfl
theorem mdel_net_own_bool_nil (x:G_net_own):yaLy x [] = []:=by kernel_rfl
theorem mdel_net_own_bool_cons (x:G_net_own) (p:G_net_own×Bool) (m:List (G_net_own×Bool)):yaLy x (p :: m) = bif yiQy x p.1 then m else p :: yaLy x m:=by kernel_rfl
theorem mset_net_own_bool_nil (x:G_net_own) (y:Bool):ya0y x y [] = [(x,y)]:=by kernel_rfl
theorem mset_net_own_bool_cons (x:G_net_own) (y:Bool) (p:G_net_own×Bool) (m:List (G_net_own×Bool)):ya0y x y (p :: m) = bif yiQy x p.1 then (x,y) :: m else p :: ya0y x y m:=by kernel_rfl
def ybUy (x:G_log_worked) (m:List (G_log_worked×Bool)):Option Bool:=getM T 195 4 x m
def ycPy (x:G_log_worked) (m:List (G_log_worked×Bool)):List (G_log_worked×Bool):=delM T 195 4 x m
def ybty (x:G_log_worked) (y:Bool) (m:List (G_log_worked×Bool)):List (G_log_worked×Bool):=setM T 195 4 x y m
def yfSy (x y:G_log_worked):Bool:=(x.f_base == y.f_base && (x.f_band == y.f_band && (x.f_mode == y.f_mode && true)))
theorem mget_log_worked_bool_nil (x:G_log_worked):ybUy x [] = none:=by kernel_rfl
theorem mget_log_worked_bool_cons (x:G_log_worked) (p:G_log_worked×Bool) (m:List (G_log_worked×Bool)):ybUy x (p :: m) = bif yfSy x p.1 then some p.2 else ybUy x m:=by kernel_rfl
theorem mdel_log_worked_bool_nil (x:G_log_worked):ycPy x [] = []:=by kernel_rfl
theorem mdel_log_worked_bool_cons (x:G_log_worked) (p:G_log_worked×Bool) (m:List (G_log_worked×Bool)):ycPy x (p :: m) = bif yfSy x p.1 then m else p :: ycPy x m:=by kernel_rfl
theorem mset_log_worked_bool_nil (x:G_log_worked) (y:Bool):ybty x y [] = [(x,y)]:=by kernel_rfl
theorem mset_log_worked_bool_cons (x:G_log_worked) (y:Bool) (p:G_log_worked×Bool) (m:List (G_log_worked×Bool)):ybty x y (p :: m) = bif yfSy x p.1 then (x,y) :: m else p :: ybty x y m:=by kernel_rfl
theorem ko_3x (x p:Int):eqT Tryz.prog 64 3 (yaKy T 3 x) (yaKy T 3 p) = some ((x:Int) == (p:Int)):=by kernel_rfl
theorem ko_3y (x p:Int):some (eqDs (T.enc 3 x) (T.enc 3 p)) = some ((x == p) && true):=by kernel_rfl
theorem ko_3z (x p:Int):eqT Tryz.prog 64 3 (yaKy T 3 x) (yaKy T 3 p) = some (eqDs (T.enc 3 x) (T.enc 3 p)):=(ko_3x x p).trans (((congrArg some (Bool.and_true (x == p))).symm).trans (ko_3y x p).symm)
theorem ko_3:KeyOk Tryz.prog T 3:=fun x p=>ko_3z x p
theorem kd_3:∃ kd,Tryz.prog.underlying 3 = some kd:=Option.isSome_iff_exists.1 (by kernel_rfl)
theorem yKPy (x p:G_Contact):eqT Tryz.prog 64 49 (yaKy T 49 x) (yaKy T 49 p) = some (eqDs (T.enc 49 x) (T.enc 49 p)):=by kernel_rfl
theorem ko_49:KeyOk Tryz.prog T 49:=by
 intro x p
 exact yKPy x p
theorem kd_49:∃ kd,Tryz.prog.underlying 49 = some kd:=Option.isSome_iff_exists.1 (by kernel_rfl)
theorem yHGy (x p:G_net_own):eqT Tryz.prog 64 107 (yaKy T 107 x) (yaKy T 107 p) = some (eqDs (T.enc 107 x) (T.enc 107 p)):=by kernel_rfl
theorem yLty:KeyOk Tryz.prog T 107:=by
 intro x p
 exact yHGy x p
theorem yK1y:∃ kd,Tryz.prog.underlying 107 = some kd:=Option.isSome_iff_exists.1 (by kernel_rfl)
theorem yJCy (x p:G_log_worked):eqT Tryz.prog 64 195 (yaKy T 195 x) (yaKy T 195 p) = some (eqDs (T.enc 195 x) (T.enc 195 p)):=by kernel_rfl
theorem yK3y:KeyOk Tryz.prog T 195:=by
 intro x p
 exact yJCy x p
theorem yKjy:∃ kd,Tryz.prog.underlying 195 = some kd:=Option.isSome_iff_exists.1 (by kernel_rfl)
def keyT (k:Nat):Bool:=k == 3 || k == 49 || k == 107 || k == 195
theorem yCLy:∀ k,keyT k = true→KeyOk Tryz.prog T k∧∃ kd,Tryz.prog.underlying k = some kd:=by
 intro k h
 simp only [keyT,Bool.or_eq_true,beq_iff_eq] at h
 rcases h with ((rfl | rfl) | rfl) | rfl
 ·exact ⟨ko_3,kd_3⟩
 ·exact ⟨ko_49,kd_49⟩
 ·exact ⟨yLty,yK1y⟩
 ·exact ⟨yK3y,yKjy⟩
theorem yLLy:ydXy T flatT:=fun e h x d hd=>yzXy (el e) h x d hd
theorem yKvy:SpOk Tryz.prog T 33 .bst:=spBst (ρ:=Tryz.lays169_ren) Tryz.lays169 Tryz.bx169 (by kernel_rfl) rfl (by kernel_rfl) (enters_of (fn:=Tryz.f33) Tryz.func33 (by kernel_rfl) (by kernel_rfl))
theorem yKqy:SpOk Tryz.prog T 32 .bln:=spBln (ρ:=Tryz.lays170_ren) Tryz.lays170 Tryz.bx170 (by kernel_rfl) (by kernel_rfl) (enters_of (fn:=Tryz.f32) Tryz.func32 (by kernel_rfl) (by kernel_rfl))
theorem yKWy:SpOk Tryz.prog T 29 .bwr:=spBwr (ρ:=Tryz.lays156_ren) { Tryz.lays156 with } Tryz.bx156 (by kernel_rfl) rfl (by kernel_rfl) (enters_of (fn:=Tryz.f29) Tryz.func29 (by kernel_rfl) (by kernel_rfl))
def spT:List (Nat×Sp A):=[(29,.bwr),(32,.bln),(33,.bst)]
theorem spAll:SpAll Tryz.prog T spT:=.cons yKWy (.cons yKqy (.cons yKvy (.nil)))
theorem std:Std Tryz.prog T keyT flatT (fun f=>spT.lookup f):=⟨tyOk Tryz.prog,yLLy,yCLy,spAll.ok,by kernel_rfl⟩
abbrev Ok (f:Nat) (S:Spec A):Prop:=OkF Tryz.prog T f S
theorem stdD:Std Tryz.prog TD keyT flatT (fun _=>none):=⟨tyOkD Tryz.prog,fun e h x d hd=>yzXy (el e) h x d hd,yCLy,fun _ _ h=>(by cases h),by kernel_rfl⟩
abbrev OkD (f:Nat) (S:Spec A):Prop:=OkF Tryz.prog TD f S
noncomputable def mkE (C:List (Nat×Spec A)) (tg:List (Nat×List Nat)) (lh xh:List (Nat×Hint)) (cl:List (Nat×Piece A)) (sh xs:List (Nat×Hint)) (cs:List (Nat×Piece A)) (md:List (Nat×Nat)) (pin:List Nat):Env A :=
 { P:=Tryz.prog,T:=T,C:=fun f=>C.lookup f,tg:=fun d=>(tg.lookup d).getD [],seqH:=fun i=>sh.lookup i,loopH:=fun i=>lh.lookup i,exitH:=fun i=>xh.lookup i,exitS:=fun i=>xs.lookup i,cutS:=fun i=>cs.lookup i,cutL:=fun i=>cl.lookup i,mode:=fun f i=>md.contains (f,i),sp:=fun f=>spT.lookup f,keyed:=keyT,flat:=flatT,pin:=pin }
noncomputable def mkED (C:List (Nat×Spec A)) (tg:List (Nat×List Nat)) (lh xh:List (Nat×Hint)) (cl:List (Nat×Piece A)) (sh xs:List (Nat×Hint)) (cs:List (Nat×Piece A)) (md:List (Nat×Nat)) (pin:List Nat):Env A :=
 { P:=Tryz.prog,T:=TD,C:=fun f=>C.lookup f,tg:=fun d=>(tg.lookup d).getD [],seqH:=fun i=>sh.lookup i,loopH:=fun i=>lh.lookup i,exitH:=fun i=>xh.lookup i,exitS:=fun i=>xs.lookup i,cutS:=fun i=>cs.lookup i,cutL:=fun i=>cl.lookup i,mode:=fun f i=>md.contains (f,i),keyed:=keyT,flat:=flatT,pin:=pin }
end Go.Am
