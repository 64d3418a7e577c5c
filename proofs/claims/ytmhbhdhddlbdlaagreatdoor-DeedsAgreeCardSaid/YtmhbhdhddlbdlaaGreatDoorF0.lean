/- The functions of the program as Lean functions, each shown to be what the code computes, part 0. No condition: lemmas for the claim. -/
import Derived.Test.YtmhbhdhddlbdlaaGreatDoorAmPrint
import Derived.Test.YtmhbhdhddlbdlaaGreatDoorAmBld
import Derived.Test.YtmhbhdhddlbdlaaGreatDoorFSh
import Derived.Test.YtmhbhdhddlbdlaaGreatDoorAmIn
import Derived.Test.YtmhbhdhddlbdlaaGreatDoorProg
import Derived.KernelRfl
set_option linter.unusedVariables false
set_option maxRecDepth 100000
namespace Go.Am
open Go Go.Proofs
structure G_Stream where
 f_L:List Int
 f_at:Int
 deriving DecidableEq
structure G_Contact where
 f_At:Int
 f_Mode:Int
 f_Band:List UInt8
 f_Call:List UInt8
 f_Sent:Int
 f_Heard:Int
 f_Gave:List UInt8
 f_Got:List UInt8
 deriving DecidableEq
structure G_Deed where
 f_Site:List UInt8
 f_No:Int
 f_At:Int
 f_Kind:Int
 f_Contact:G_Contact
 f_Band:List UInt8
 f_Of:List UInt8
 f_Other:Int
 deriving DecidableEq
structure G_Window where
 f_From:Int
 f_To:Int
 deriving DecidableEq
structure G_Segment where
 f_Class:List UInt8
 f_Low:Int
 f_High:Int
 f_Modes:List Int
 f_Time:G_Window
 deriving DecidableEq
structure G_Entrant where
 f_Call:List UInt8
 f_Category:List UInt8
 f_Points:Int
 f_Locator:List UInt8
 deriving DecidableEq
structure G_net_own where
 f_site:List UInt8
 f_no:Int
 deriving DecidableEq
structure G_Row where
 f_From:Int
 f_To:Int
 deriving DecidableEq
structure G_Place where
 f_Rank:Int
 f_Points:Int
 f_Key:List UInt8
 deriving DecidableEq
structure G_Parts where
 f_Base:List UInt8
 f_Prefix:List UInt8
 f_Suffix:List UInt8
 f_Kind:Int
 f_Added:List UInt8
 deriving DecidableEq
structure G_log_worked where
 f_base:List UInt8
 f_band:List UInt8
 f_mode:Int
 deriving DecidableEq
inductive El where
 | e3 | e4 | e9 | e25 | e33 | e44 | e49 | e51 | e90 | e92 | e98 | e107 | e134 | e142 | e170 | e195 | no
def el:Nat→El
 | 3=>.e3
 | 4=>.e4
 | 9=>.e9
 | 25=>.e25
 | 33=>.e33
 | 44=>.e44
 | 49=>.e49
 | 51=>.e51
 | 90=>.e90
 | 92=>.e92
 | 98=>.e98
 | 107=>.e107
 | 134=>.e134
 | 142=>.e142
 | 170=>.e170
 | 195=>.e195
 | _=>.no
def AE:El→Type
 | .e3=>Int
 | .e4=>Bool
 | .e9=>List UInt8
 | .e25=>G_Stream
 | .e33=>Int
 | .e44=>List G_Deed
 | .e49=>G_Contact
 | .e51=>G_Deed
 | .e90=>G_Window
 | .e92=>G_Segment
 | .e98=>G_Entrant
 | .e107=>G_net_own
 | .e134=>G_Row
 | .e142=>G_Place
 | .e170=>G_Parts
 | .e195=>G_log_worked
 | .no=>Unit
abbrev A (e:Nat):Type:=AE (el e)
def sizeE:El→Nat
 | .e3=>1
 | .e4=>1
 | .e9=>1
 | .e25=>2
 | .e33=>1
 | .e44=>1
 | .e49=>8
 | .e51=>15
 | .e90=>2
 | .e92=>6
 | .e98=>4
 | .e107=>2
 | .e134=>2
 | .e142=>3
 | .e170=>5
 | .e195=>3
 | .no=>1
def yyky (x:Int):List (D A):=[.int .i64 x]
def yw0y (cs:List (D A)):Option (Int):=match cs with | [c0]=>(dInt .i64 c0).bind fun b1=>some b1 | _=>none
def yv5y (x:Bool):List (D A):=[.bool x]
def ywby (cs:List (D A)):Option (Bool):=match cs with | [c0]=>(dBool c0).bind fun b1=>some b1 | _=>none
def yu9y (x:List UInt8):List (D A):=[.str x]
def yxty (cs:List (D A)):Option (List UInt8):=match cs with | [c0]=>(dStr c0).bind fun b1=>some b1 | _=>none
def yBcy (x:G_Stream):List (D A):=[.sl 3 x.f_L,.int .i64 x.f_at]
def ys0y (cs:List (D A)):Option (G_Stream):=match cs with | [c0,c1]=>(dSl 3 c0).bind fun b1=>(dInt .i64 c1).bind fun b2=>some ⟨b1,b2⟩ | _=>none
def ysYy (x:Int):List (D A):=[.int .i64 x]
def ytuy (cs:List (D A)):Option (Int):=match cs with | [c0]=>(dInt .i64 c0).bind fun b1=>some b1 | _=>none
def yALy (x:List G_Deed):List (D A):=[.sl 51 x]
def ytgy (cs:List (D A)):Option (List G_Deed):=match cs with | [c0]=>(dSl 51 c0).bind fun b1=>some b1 | _=>none
def yoNy (x:G_Contact):List (D A):=[.int .i64 x.f_At,.int .i64 x.f_Mode,.str x.f_Band,.str x.f_Call,.int .i64 x.f_Sent,.int .i64 x.f_Heard,.str x.f_Gave,.str x.f_Got]
def ytqy (cs:List (D A)):Option (G_Contact):=match cs with | [c0,c1,c2,c3,c4,c5,c6,c7]=>(dInt .i64 c0).bind fun b1=>(dInt .i64 c1).bind fun b2=>(dStr c2).bind fun b3=>(dStr c3).bind fun b4=>(dInt .i64 c4).bind fun b5=>(dInt .i64 c5).bind fun b6=>(dStr c6).bind fun b7=>(dStr c7).bind fun b8=>some ⟨b1,b2,b3,b4,b5,b6,b7,b8⟩ | _=>none
def yoPy (x:G_Deed):List (D A):=[.str x.f_Site,.int .i64 x.f_No,.int .i64 x.f_At,.int .i64 x.f_Kind,.int .i64 x.f_Contact.f_At,.int .i64 x.f_Contact.f_Mode,.str x.f_Contact.f_Band,.str x.f_Contact.f_Call,.int .i64 x.f_Contact.f_Sent,.int .i64 x.f_Contact.f_Heard,.str x.f_Contact.f_Gave,.str x.f_Contact.f_Got,.str x.f_Band,.str x.f_Of,.int .i64 x.f_Other]
def ytKy (cs:List (D A)):Option (G_Deed):=match cs with | [c0,c1,c2,c3,c4,c5,c6,c7,c8,c9,c10,c11,c12,c13,c14]=>(dStr c0).bind fun b1=>(dInt .i64 c1).bind fun b2=>(dInt .i64 c2).bind fun b3=>(dInt .i64 c3).bind fun b4=>(dInt .i64 c4).bind fun b5=>(dInt .i64 c5).bind fun b6=>(dStr c6).bind fun b7=>(dStr c7).bind fun b8=>(dInt .i64 c8).bind fun b9=>(dInt .i64 c9).bind fun b10=>(dStr c10).bind fun b11=>(dStr c11).bind fun b12=>(dStr c12).bind fun b13=>(dStr c13).bind fun b14=>(dInt .i64 c14).bind fun b15=>some ⟨b1,b2,b3,b4,⟨b5,b6,b7,b8,b9,b10,b11,b12⟩,b13,b14,b15⟩ | _=>none
def ys5y (x:G_Window):List (D A):=[.int .i64 x.f_From,.int .i64 x.f_To]
def ytJy (cs:List (D A)):Option (G_Window):=match cs with | [c0,c1]=>(dInt .i64 c0).bind fun b1=>(dInt .i64 c1).bind fun b2=>some ⟨b1,b2⟩ | _=>none
def yA1y (x:G_Segment):List (D A):=[.str x.f_Class,.int .i64 x.f_Low,.int .i64 x.f_High,.sl 3 x.f_Modes,.int .i64 x.f_Time.f_From,.int .i64 x.f_Time.f_To]
def ytAy (cs:List (D A)):Option (G_Segment):=match cs with | [c0,c1,c2,c3,c4,c5]=>(dStr c0).bind fun b1=>(dInt .i64 c1).bind fun b2=>(dInt .i64 c2).bind fun b3=>(dSl 3 c3).bind fun b4=>(dInt .i64 c4).bind fun b5=>(dInt .i64 c5).bind fun b6=>some ⟨b1,b2,b3,b4,⟨b5,b6⟩⟩ | _=>none
def ytCy (x:G_Entrant):List (D A):=[.str x.f_Call,.str x.f_Category,.int .i64 x.f_Points,.str x.f_Locator]
def ytwy (cs:List (D A)):Option (G_Entrant):=match cs with | [c0,c1,c2,c3]=>(dStr c0).bind fun b1=>(dStr c1).bind fun b2=>(dInt .i64 c2).bind fun b3=>(dStr c3).bind fun b4=>some ⟨b1,b2,b3,b4⟩ | _=>none
def yqDy (x:G_net_own):List (D A):=[.str x.f_site,.int .i64 x.f_no]
def yqvy (cs:List (D A)):Option (G_net_own):=match cs with | [c0,c1]=>(dStr c0).bind fun b1=>(dInt .i64 c1).bind fun b2=>some ⟨b1,b2⟩ | _=>none
def ymby (x:G_Row):List (D A):=[.int .i64 x.f_From,.int .i64 x.f_To]
def yqfy (cs:List (D A)):Option (G_Row):=match cs with | [c0,c1]=>(dInt .i64 c0).bind fun b1=>(dInt .i64 c1).bind fun b2=>some ⟨b1,b2⟩ | _=>none
def ylEy (x:G_Place):List (D A):=[.int .i64 x.f_Rank,.int .i64 x.f_Points,.str x.f_Key]
def yqky (cs:List (D A)):Option (G_Place):=match cs with | [c0,c1,c2]=>(dInt .i64 c0).bind fun b1=>(dInt .i64 c1).bind fun b2=>(dStr c2).bind fun b3=>some ⟨b1,b2,b3⟩ | _=>none
def yp2y (x:G_Parts):List (D A):=[.str x.f_Base,.str x.f_Prefix,.str x.f_Suffix,.int .i64 x.f_Kind,.str x.f_Added]
def yqqy (cs:List (D A)):Option (G_Parts):=match cs with | [c0,c1,c2,c3,c4]=>(dStr c0).bind fun b1=>(dStr c1).bind fun b2=>(dStr c2).bind fun b3=>(dInt .i64 c3).bind fun b4=>(dStr c4).bind fun b5=>some ⟨b1,b2,b3,b4,b5⟩ | _=>none
def yqCy (x:G_log_worked):List (D A):=[.str x.f_base,.str x.f_band,.int .i64 x.f_mode]
def yqly (cs:List (D A)):Option (G_log_worked):=match cs with | [c0,c1,c2]=>(dStr c0).bind fun b1=>(dStr c1).bind fun b2=>(dInt .i64 c2).bind fun b3=>some ⟨b1,b2,b3⟩ | _=>none
def encE:(k:El)→AE k→List (D A)
 | .e3,x=>yyky x
 | .e4,x=>yv5y x
 | .e9,x=>yu9y x
 | .e25,x=>yBcy x
 | .e33,x=>ysYy x
 | .e44,x=>yALy x
 | .e49,x=>yoNy x
 | .e51,x=>yoPy x
 | .e90,x=>ys5y x
 | .e92,x=>yA1y x
 | .e98,x=>ytCy x
 | .e107,x=>yqDy x
 | .e134,x=>ymby x
 | .e142,x=>ylEy x
 | .e170,x=>yp2y x
 | .e195,x=>yqCy x
 | .no,_=>[.nilif]
def decE:(k:El)→List (D A)→Option (AE k)
 | .e3,cs=>yw0y cs
 | .e4,cs=>ywby cs
 | .e9,cs=>yxty cs
 | .e25,cs=>ys0y cs
 | .e33,cs=>ytuy cs
 | .e44,cs=>ytgy cs
 | .e49,cs=>ytqy cs
 | .e51,cs=>ytKy cs
 | .e90,cs=>ytJy cs
 | .e92,cs=>ytAy cs
 | .e98,cs=>ytwy cs
 | .e107,cs=>yqvy cs
 | .e134,cs=>yqfy cs
 | .e142,cs=>yqky cs
 | .e170,cs=>yqqy cs
 | .e195,cs=>yqly cs
 | .no,_=>none
def aggE:El→Bool
 | .e3=>false
 | .e4=>false
 | .e9=>false
 | .e25=>true
 | .e33=>false
 | .e44=>false
 | .e49=>true
 | .e51=>true
 | .e90=>true
 | .e92=>true
 | .e98=>true
 | .e107=>true
 | .e134=>true
 | .e142=>true
 | .e170=>true
 | .e195=>true
 | .no=>false
theorem tabg:Tryz.prog.globalNamed "internal/strconv.uint64pow10" = some 1:=by kernel_rfl
def T:Ty A where
 size:=fun e=>sizeE (el e)
 enc:=fun e x=>encE (el e) x
 dec:=fun e cs=>decE (el e) cs
 agg:=fun e=>aggE (el e)
 bld:=some (70,5)
 fix:=[1]
 amb:=fun w=>Lib.TabIs Tryz.prog w "internal/strconv.uint64pow10" .u64 Lib.pow10Tab
 ambOk:=yJCy tabg
theorem lenE:∀ k x,(encE k x).length = sizeE k:=by intro k x;cases k <;> rfl
theorem posE:∀ k,0 < sizeE k:=by intro k;cases k <;> decide
theorem yNay {U:Ty A} {cs:List (D A)} {x:Int} (h:yw0y cs = some x):OkL U cs (yyky x):=by
 unfold yw0y at h
 split at h
 ·simp only [Option.bind_eq_some_iff] at h
  obtain ⟨b1,h1,hx⟩:=h
  obtain rfl:=Option.some.inj hx
  exact (.cons (gInt h1) .nil)
 ·cases h
theorem yNzy (x:Int):(yyky x).all D.plain = true:=rfl
theorem yMvy {U:Ty A} {cs:List (D A)} {x:Bool} (h:ywby cs = some x):OkL U cs (yv5y x):=by
 unfold ywby at h
 split at h
 ·simp only [Option.bind_eq_some_iff] at h
  obtain ⟨b1,h1,hx⟩:=h
  obtain rfl:=Option.some.inj hx
  exact (.cons (gBool h1) .nil)
 ·cases h
theorem yN8y (x:Bool):(yv5y x).all D.plain = true:=rfl
theorem yN9y {U:Ty A} {cs:List (D A)} {x:List UInt8} (h:yxty cs = some x):OkL U cs (yu9y x):=by
 unfold yxty at h
 split at h
 ·simp only [Option.bind_eq_some_iff] at h
  obtain ⟨b1,h1,hx⟩:=h
  obtain rfl:=Option.some.inj hx
  exact (.cons (gStr h1) .nil)
 ·cases h
theorem yNky (x:List UInt8):(yu9y x).all D.plain = true:=rfl
theorem yIky {U:Ty A} {cs:List (D A)} {x:G_Stream} (h:ys0y cs = some x):OkL U cs (yBcy x):=by
 unfold ys0y at h
 split at h
 ·simp only [Option.bind_eq_some_iff] at h
  obtain ⟨b1,h1,b2,h2,hx⟩:=h
  obtain rfl:=Option.some.inj hx
  exact (.cons (gSl h1) (.cons (gInt h2) .nil))
 ·cases h
theorem yLky {U:Ty A} {cs:List (D A)} {x:Int} (h:ytuy cs = some x):OkL U cs (ysYy x):=by
 unfold ytuy at h
 split at h
 ·simp only [Option.bind_eq_some_iff] at h
  obtain ⟨b1,h1,hx⟩:=h
  obtain rfl:=Option.some.inj hx
  exact (.cons (gInt h1) .nil)
 ·cases h
theorem yLWy (x:Int):(ysYy x).all D.plain = true:=rfl
theorem yJPy {U:Ty A} {cs:List (D A)} {x:List G_Deed} (h:ytgy cs = some x):OkL U cs (yALy x):=by
 unfold ytgy at h
 split at h
 ·simp only [Option.bind_eq_some_iff] at h
  obtain ⟨b1,h1,hx⟩:=h
  obtain rfl:=Option.some.inj hx
  exact (.cons (gSl h1) .nil)
 ·cases h
theorem yLay {U:Ty A} {cs:List (D A)} {x:G_Contact} (h:ytqy cs = some x):OkL U cs (yoNy x):=by
 unfold ytqy at h
 split at h
 ·simp only [Option.bind_eq_some_iff] at h
  obtain ⟨b1,h1,b2,h2,b3,h3,b4,h4,b5,h5,b6,h6,b7,h7,b8,h8,hx⟩:=h
  obtain rfl:=Option.some.inj hx
  exact (.cons (gInt h1) (.cons (gInt h2) (.cons (gStr h3) (.cons (gStr h4) (.cons (gInt h5) (.cons (gInt h6) (.cons (gStr h7) (.cons (gStr h8) .nil))))))))
 ·cases h
theorem yL2y (x:G_Contact):(yoNy x).all D.plain = true:=rfl
theorem yIQy {U:Ty A} {cs:List (D A)} {x:G_Deed} (h:ytKy cs = some x):OkL U cs (yoPy x):=by
 unfold ytKy at h
 split at h
 ·simp only [Option.bind_eq_some_iff] at h
  obtain ⟨b1,h1,b2,h2,b3,h3,b4,h4,b5,h5,b6,h6,b7,h7,b8,h8,b9,h9,b10,h10,b11,h11,b12,h12,b13,h13,b14,h14,b15,h15,hx⟩:=h
  obtain rfl:=Option.some.inj hx
  exact (.cons (gStr h1) (.cons (gInt h2) (.cons (gInt h3) (.cons (gInt h4) (.cons (gInt h5) (.cons (gInt h6) (.cons (gStr h7) (.cons (gStr h8) (.cons (gInt h9) (.cons (gInt h10) (.cons (gStr h11) (.cons (gStr h12) (.cons (gStr h13) (.cons (gStr h14) (.cons (gInt h15) .nil)))))))))))))))
 ·cases h
theorem yLuy (x:G_Deed):(yoPy x).all D.plain = true:=rfl
theorem yJuy {U:Ty A} {cs:List (D A)} {x:G_Window} (h:ytJy cs = some x):OkL U cs (ys5y x):=by
 unfold ytJy at h
 split at h
 ·simp only [Option.bind_eq_some_iff] at h
  obtain ⟨b1,h1,b2,h2,hx⟩:=h
  obtain rfl:=Option.some.inj hx
  exact (.cons (gInt h1) (.cons (gInt h2) .nil))
 ·cases h
theorem yLGy (x:G_Window):(ys5y x).all D.plain = true:=rfl
theorem yICy {U:Ty A} {cs:List (D A)} {x:G_Segment} (h:ytAy cs = some x):OkL U cs (yA1y x):=by
 unfold ytAy at h
 split at h
 ·simp only [Option.bind_eq_some_iff] at h
  obtain ⟨b1,h1,b2,h2,b3,h3,b4,h4,b5,h5,b6,h6,hx⟩:=h
  obtain rfl:=Option.some.inj hx
  exact (.cons (gStr h1) (.cons (gInt h2) (.cons (gInt h3) (.cons (gSl h4) (.cons (gInt h5) (.cons (gInt h6) .nil))))))
 ·cases h
theorem yKMy {U:Ty A} {cs:List (D A)} {x:G_Entrant} (h:ytwy cs = some x):OkL U cs (ytCy x):=by
 unfold ytwy at h
 split at h
 ·simp only [Option.bind_eq_some_iff] at h
  obtain ⟨b1,h1,b2,h2,b3,h3,b4,h4,hx⟩:=h
  obtain rfl:=Option.some.inj hx
  exact (.cons (gStr h1) (.cons (gStr h2) (.cons (gInt h3) (.cons (gStr h4) .nil))))
 ·cases h
theorem yLdy (x:G_Entrant):(ytCy x).all D.plain = true:=rfl
theorem yHqy {U:Ty A} {cs:List (D A)} {x:G_net_own} (h:yqvy cs = some x):OkL U cs (yqDy x):=by
 unfold yqvy at h
 split at h
 ·simp only [Option.bind_eq_some_iff] at h
  obtain ⟨b1,h1,b2,h2,hx⟩:=h
  obtain rfl:=Option.some.inj hx
  exact (.cons (gStr h1) (.cons (gInt h2) .nil))
 ·cases h
theorem yHwy (x:G_net_own):(yqDy x).all D.plain = true:=rfl
theorem yGay {U:Ty A} {cs:List (D A)} {x:G_Row} (h:yqfy cs = some x):OkL U cs (ymby x):=by
 unfold yqfy at h
 split at h
 ·simp only [Option.bind_eq_some_iff] at h
  obtain ⟨b1,h1,b2,h2,hx⟩:=h
  obtain rfl:=Option.some.inj hx
  exact (.cons (gInt h1) (.cons (gInt h2) .nil))
 ·cases h
theorem yHpy (x:G_Row):(ymby x).all D.plain = true:=rfl
theorem yF5y {U:Ty A} {cs:List (D A)} {x:G_Place} (h:yqky cs = some x):OkL U cs (ylEy x):=by
 unfold yqky at h
 split at h
 ·simp only [Option.bind_eq_some_iff] at h
  obtain ⟨b1,h1,b2,h2,b3,h3,hx⟩:=h
  obtain rfl:=Option.some.inj hx
  exact (.cons (gInt h1) (.cons (gInt h2) (.cons (gStr h3) .nil)))
 ·cases h
theorem yGjy (x:G_Place):(ylEy x).all D.plain = true:=rfl
theorem yG5y {U:Ty A} {cs:List (D A)} {x:G_Parts} (h:yqqy cs = some x):OkL U cs (yp2y x):=by
 unfold yqqy at h
 split at h
 ·simp only [Option.bind_eq_some_iff] at h
  obtain ⟨b1,h1,b2,h2,b3,h3,b4,h4,b5,h5,hx⟩:=h
  obtain rfl:=Option.some.inj hx
  exact (.cons (gStr h1) (.cons (gStr h2) (.cons (gStr h3) (.cons (gInt h4) (.cons (gStr h5) .nil)))))
 ·cases h
theorem yG9y (x:G_Parts):(yp2y x).all D.plain = true:=rfl
theorem yGUy {U:Ty A} {cs:List (D A)} {x:G_log_worked} (h:yqly cs = some x):OkL U cs (yqCy x):=by
 unfold yqly at h
 split at h
 ·simp only [Option.bind_eq_some_iff] at h
  obtain ⟨b1,h1,b2,h2,b3,h3,hx⟩:=h
  obtain rfl:=Option.some.inj hx
  exact (.cons (gStr h1) (.cons (gStr h2) (.cons (gInt h3) .nil)))
 ·cases h
theorem yFVy (x:G_log_worked):(yqCy x).all D.plain = true:=rfl
def TD:Ty A:=T.day
theorem decOk {U:Ty A}:∀ k cs x,decE k cs = some x→OkL U cs (encE k x):=by
 intro k cs x h
 cases k
 case e3=>exact yNay h
 case e4=>exact yMvy h
 case e9=>exact yN9y h
 case e25=>exact yIky h
 case e33=>exact yLky h
 case e44=>exact yJPy h
 case e49=>exact yLay h
 case e51=>exact yIQy h
 case e90=>exact yJuy h
 case e92=>exact yICy h
 case e98=>exact yKMy h
 case e107=>exact yHqy h
 case e134=>exact yGay h
 case e142=>exact yF5y h
 case e170=>exact yG5y h
 case e195=>exact yGUy h
 case no=>cases h
theorem tyOkD (P:Program):TyOk P TD:=⟨fun e x=>lenE (el e) x,fun e=>posE (el e),fun e cs x h=>by
 obtain ⟨h1,h2⟩:=decOk (U:=TD) (el e) cs x h
 exact ⟨h1.trans (lenE (el e) x),h2⟩⟩
theorem tyOk (P:Program):TyOk P T:=⟨fun e x=>lenE (el e) x,fun e=>posE (el e),fun e cs x h=>by
 obtain ⟨h1,h2⟩:=decOk (el e) cs x h
 exact ⟨h1.trans (lenE (el e) x),h2⟩⟩
def flatE:El→Bool
 | .e3=>true
 | .e4=>true
 | .e9=>true
 | .e25=>false
 | .e33=>true
 | .e44=>false
 | .e49=>true
 | .e51=>true
 | .e90=>true
 | .e92=>false
 | .e98=>true
 | .e107=>true
 | .e134=>true
 | .e142=>true
 | .e170=>true
 | .e195=>true
 | .no=>false
def flatT (e:Nat):Bool:=flatE (el e)
theorem yAly:∀ k,flatE k = true→∀ x d,d∈encE k x→D.plain d = true:=by
 intro k h x d hd
 cases k
 case e3=>exact List.all_eq_true.1 (yNzy x) d hd
 case e4=>exact List.all_eq_true.1 (yN8y x) d hd
 case e9=>exact List.all_eq_true.1 (yNky x) d hd
 case e25=>cases h
 case e33=>exact List.all_eq_true.1 (yLWy x) d hd
 case e44=>cases h
 case e49=>exact List.all_eq_true.1 (yL2y x) d hd
 case e51=>exact List.all_eq_true.1 (yLuy x) d hd
 case e90=>exact List.all_eq_true.1 (yLGy x) d hd
 case e92=>cases h
 case e98=>exact List.all_eq_true.1 (yLdy x) d hd
 case e107=>exact List.all_eq_true.1 (yHwy x) d hd
 case e134=>exact List.all_eq_true.1 (yHpy x) d hd
 case e142=>exact List.all_eq_true.1 (yGjy x) d hd
 case e170=>exact List.all_eq_true.1 (yG9y x) d hd
 case e195=>exact List.all_eq_true.1 (yFVy x) d hd
 case no=>cases h
def yaMy (x y:G_Contact):Bool:=(x.f_At == y.f_At&&(x.f_Mode == y.f_Mode&&(x.f_Band == y.f_Band&&(x.f_Call == y.f_Call&&(x.f_Sent == y.f_Sent&&(x.f_Heard == y.f_Heard&&(x.f_Gave == y.f_Gave&&(x.f_Got == y.f_Got&&true))))))))
def yaKy (x y:G_Deed):Bool:=(x.f_Site == y.f_Site&&(x.f_No == y.f_No&&(x.f_At == y.f_At&&(x.f_Kind == y.f_Kind&&((x.f_Contact.f_At == y.f_Contact.f_At&&(x.f_Contact.f_Mode == y.f_Contact.f_Mode&&(x.f_Contact.f_Band == y.f_Contact.f_Band&&(x.f_Contact.f_Call == y.f_Contact.f_Call&&(x.f_Contact.f_Sent == y.f_Contact.f_Sent&&(x.f_Contact.f_Heard == y.f_Contact.f_Heard&&(x.f_Contact.f_Gave == y.f_Contact.f_Gave&&(x.f_Contact.f_Got == y.f_Contact.f_Got&&true))))))))&&(x.f_Band == y.f_Band&&(x.f_Of == y.f_Of&&(x.f_Other == y.f_Other&&true))))))))
def ycly (x:Int) (m:List (Int×Int)):Option Int:=getM T 3 3 x m
def yiVy (x:Int) (m:List (Int×Int)):List (Int×Int):=delM T 3 3 x m
def ydLy (x:Int) (y:Int) (m:List (Int×Int)):List (Int×Int):=setM T 3 3 x y m
def ys8y (x y:Int):Bool:=(x == y&&true)
theorem mget_int_int_nil (x:Int):ycly x [] = none:=by kernel_rfl
theorem mget_int_int_cons (x:Int) (p:Int×Int) (m:List (Int×Int)):ycly x (p::m) = bif ys8y x p.1 then some p.2 else ycly x m:=by kernel_rfl
theorem mdel_int_int_nil (x:Int):yiVy x [] = []:=by kernel_rfl
theorem mdel_int_int_cons (x:Int) (p:Int×Int) (m:List (Int×Int)):yiVy x (p::m) = bif ys8y x p.1 then m else p::yiVy x m:=by kernel_rfl
theorem mset_int_int_nil (x:Int) (y:Int):ydLy x y [] = [(x,y)]:=by kernel_rfl
theorem mset_int_int_cons (x:Int) (y:Int) (p:Int×Int) (m:List (Int×Int)):ydLy x y (p::m) = bif ys8y x p.1 then (x,y)::m else p::ydLy x y m:=by kernel_rfl
def yaay (x:List UInt8) (m:List (List UInt8×Int)):Option Int:=getM T 9 3 x m
def yfCy (x:List UInt8) (m:List (List UInt8×Int)):List (List UInt8×Int):=delM T 9 3 x m
def yaby (x:List UInt8) (y:Int) (m:List (List UInt8×Int)):List (List UInt8×Int):=setM T 9 3 x y m
def ycHy (x y:List UInt8):Bool:=(x == y&&true)
theorem mget_string_int_nil (x:List UInt8):yaay x [] = none:=by kernel_rfl
theorem mget_string_int_cons (x:List UInt8) (p:List UInt8×Int) (m:List (List UInt8×Int)):yaay x (p::m) = bif ycHy x p.1 then some p.2 else yaay x m:=by kernel_rfl
theorem mdel_string_int_nil (x:List UInt8):yfCy x [] = []:=by kernel_rfl
theorem mdel_string_int_cons (x:List UInt8) (p:List UInt8×Int) (m:List (List UInt8×Int)):yfCy x (p::m) = bif ycHy x p.1 then m else p::yfCy x m:=by kernel_rfl
theorem mset_string_int_nil (x:List UInt8) (y:Int):yaby x y [] = [(x,y)]:=by kernel_rfl
theorem mset_string_int_cons (x:List UInt8) (y:Int) (p:List UInt8×Int) (m:List (List UInt8×Int)):yaby x y (p::m) = bif ycHy x p.1 then (x,y)::m else p::yaby x y m:=by kernel_rfl
def yaPy (x:G_Contact) (m:List (G_Contact×G_Deed)):Option G_Deed:=getM T 49 51 x m
def yeey (x:G_Contact) (m:List (G_Contact×G_Deed)):List (G_Contact×G_Deed):=delM T 49 51 x m
def ya7y (x:G_Contact) (y:G_Deed) (m:List (G_Contact×G_Deed)):List (G_Contact×G_Deed):=setM T 49 51 x y m
def yjPy (x y:G_Contact):Bool:=(x.f_At == y.f_At&&(x.f_Mode == y.f_Mode&&(x.f_Band == y.f_Band&&(x.f_Call == y.f_Call&&(x.f_Sent == y.f_Sent&&(x.f_Heard == y.f_Heard&&(x.f_Gave == y.f_Gave&&(x.f_Got == y.f_Got&&true))))))))
theorem mget_Contact_Deed_nil (x:G_Contact):yaPy x [] = none:=by kernel_rfl
theorem mget_Contact_Deed_cons (x:G_Contact) (p:G_Contact×G_Deed) (m:List (G_Contact×G_Deed)):yaPy x (p::m) = bif yjPy x p.1 then some p.2 else yaPy x m:=by kernel_rfl
theorem mdel_Contact_Deed_nil (x:G_Contact):yeey x [] = []:=by kernel_rfl
theorem mdel_Contact_Deed_cons (x:G_Contact) (p:G_Contact×G_Deed) (m:List (G_Contact×G_Deed)):yeey x (p::m) = bif yjPy x p.1 then m else p::yeey x m:=by kernel_rfl
theorem mset_Contact_Deed_nil (x:G_Contact) (y:G_Deed):ya7y x y [] = [(x,y)]:=by kernel_rfl
theorem mset_Contact_Deed_cons (x:G_Contact) (y:G_Deed) (p:G_Contact×G_Deed) (m:List (G_Contact×G_Deed)):ya7y x y (p::m) = bif yjPy x p.1 then (x,y)::m else p::ya7y x y m:=by kernel_rfl
def yaSy (x:G_net_own) (m:List (G_net_own×Bool)):Option Bool:=getM T 107 4 x m
def yaXy (x:G_net_own) (m:List (G_net_own×Bool)):List (G_net_own×Bool):=delM T 107 4 x m
def yaQy (x:G_net_own) (y:Bool) (m:List (G_net_own×Bool)):List (G_net_own×Bool):=setM T 107 4 x y m
def yawy (x y:G_net_own):Bool:=(x.f_site == y.f_site&&(x.f_no == y.f_no&&true))
theorem mget_net_own_bool_nil (x:G_net_own):yaSy x [] = none:=by kernel_rfl
theorem mget_net_own_bool_cons (x:G_net_own) (p:G_net_own×Bool) (m:List (G_net_own×Bool)):yaSy x (p::m) = bif yawy x p.1 then some p.2 else yaSy x m:=by kernel_rfl
theorem mdel_net_own_bool_nil (x:G_net_own):yaXy x [] = []:=by kernel_rfl
theorem mdel_net_own_bool_cons (x:G_net_own) (p:G_net_own×Bool) (m:List (G_net_own×Bool)):yaXy x (p::m) = bif yawy x p.1 then m else p::yaXy x m:=by kernel_rfl
theorem mset_net_own_bool_nil (x:G_net_own) (y:Bool):yaQy x y [] = [(x,y)]:=by kernel_rfl
theorem mset_net_own_bool_cons (x:G_net_own) (y:Bool) (p:G_net_own×Bool) (m:List (G_net_own×Bool)):yaQy x y (p::m) = bif yawy x p.1 then (x,y)::m else p::yaQy x y m:=by kernel_rfl
def yamy (x:G_net_own) (m:List (G_net_own×G_Deed)):Option G_Deed:=getM T 107 51 x m
def yecy (x:G_net_own) (m:List (G_net_own×G_Deed)):List (G_net_own×G_Deed):=delM T 107 51 x m
def ybpy (x:G_net_own) (y:G_Deed) (m:List (G_net_own×G_Deed)):List (G_net_own×G_Deed):=setM T 107 51 x y m
theorem mget_net_own_Deed_nil (x:G_net_own):yamy x [] = none:=by kernel_rfl
theorem mget_net_own_Deed_cons (x:G_net_own) (p:G_net_own×G_Deed) (m:List (G_net_own×G_Deed)):yamy x (p::m) = bif yawy x p.1 then some p.2 else yamy x m:=by kernel_rfl
theorem mdel_net_own_Deed_nil (x:G_net_own):yecy x [] = []:=by kernel_rfl
theorem mdel_net_own_Deed_cons (x:G_net_own) (p:G_net_own×G_Deed) (m:List (G_net_own×G_Deed)):yecy x (p::m) = bif yawy x p.1 then m else p::yecy x m:=by kernel_rfl
theorem mset_net_own_Deed_nil (x:G_net_own) (y:G_Deed):ybpy x y [] = [(x,y)]:=by kernel_rfl
theorem mset_net_own_Deed_cons (x:G_net_own) (y:G_Deed) (p:G_net_own×G_Deed) (m:List (G_net_own×G_Deed)):ybpy x y (p::m) = bif yawy x p.1 then (x,y)::m else p::ybpy x y m:=by kernel_rfl
def ycay (x:G_log_worked) (m:List (G_log_worked×Bool)):Option Bool:=getM T 195 4 x m
def yday (x:G_log_worked) (m:List (G_log_worked×Bool)):List (G_log_worked×Bool):=delM T 195 4 x m
def ybKy (x:G_log_worked) (y:Bool) (m:List (G_log_worked×Bool)):List (G_log_worked×Bool):=setM T 195 4 x y m
def ygKy (x y:G_log_worked):Bool:=(x.f_base == y.f_base&&(x.f_band == y.f_band&&(x.f_mode == y.f_mode&&true)))
theorem mget_log_worked_bool_nil (x:G_log_worked):ycay x [] = none:=by kernel_rfl
theorem mget_log_worked_bool_cons (x:G_log_worked) (p:G_log_worked×Bool) (m:List (G_log_worked×Bool)):ycay x (p::m) = bif ygKy x p.1 then some p.2 else ycay x m:=by kernel_rfl
theorem mdel_log_worked_bool_nil (x:G_log_worked):yday x [] = []:=by kernel_rfl
theorem mdel_log_worked_bool_cons (x:G_log_worked) (p:G_log_worked×Bool) (m:List (G_log_worked×Bool)):yday x (p::m) = bif ygKy x p.1 then m else p::yday x m:=by kernel_rfl
theorem mset_log_worked_bool_nil (x:G_log_worked) (y:Bool):ybKy x y [] = [(x,y)]:=by kernel_rfl
theorem mset_log_worked_bool_cons (x:G_log_worked) (y:Bool) (p:G_log_worked×Bool) (m:List (G_log_worked×Bool)):ybKy x y (p::m) = bif ygKy x p.1 then (x,y)::m else p::ybKy x y m:=by kernel_rfl
theorem ko_3x (x p:Int):eqT Tryz.prog 64 3 (yaLy T 3 x) (yaLy T 3 p) = some ((x:Int) == (p:Int)):=by kernel_rfl
theorem ko_3y (x p:Int):some (eqDs (T.enc 3 x) (T.enc 3 p)) = some ((x == p)&&true):=by kernel_rfl
theorem ko_3z (x p:Int):eqT Tryz.prog 64 3 (yaLy T 3 x) (yaLy T 3 p) = some (eqDs (T.enc 3 x) (T.enc 3 p)):=(ko_3x x p).trans (((congrArg some (Bool.and_true (x == p))).symm).trans (ko_3y x p).symm)
theorem ko_3:KeyOk Tryz.prog T 3:=fun x p=>ko_3z x p
theorem kd_3:∃ kd,Tryz.prog.underlying 3 = some kd:=Option.isSome_iff_exists.1 (by kernel_rfl)
theorem ko_9x (x p:List UInt8):eqT Tryz.prog 64 9 (yaLy T 9 x) (yaLy T 9 p) = some ((x:List UInt8) == (p:List UInt8)):=by kernel_rfl
theorem ko_9y (x p:List UInt8):some (eqDs (T.enc 9 x) (T.enc 9 p)) = some ((x == p)&&true):=by kernel_rfl
theorem ko_9z (x p:List UInt8):eqT Tryz.prog 64 9 (yaLy T 9 x) (yaLy T 9 p) = some (eqDs (T.enc 9 x) (T.enc 9 p)):=(ko_9x x p).trans (((congrArg some (Bool.and_true (x == p))).symm).trans (ko_9y x p).symm)
theorem ko_9:KeyOk Tryz.prog T 9:=fun x p=>ko_9z x p
theorem kd_9:∃ kd,Tryz.prog.underlying 9 = some kd:=Option.isSome_iff_exists.1 (by kernel_rfl)
theorem yNXy (x p:G_Contact):eqT Tryz.prog 64 49 (yaLy T 49 x) (yaLy T 49 p) = some (eqDs (T.enc 49 x) (T.enc 49 p)):=by kernel_rfl
theorem ko_49:KeyOk Tryz.prog T 49:=by
 intro x p
 exact yNXy x p
theorem kd_49:∃ kd,Tryz.prog.underlying 49 = some kd:=Option.isSome_iff_exists.1 (by kernel_rfl)
theorem yKly (x p:G_net_own):eqT Tryz.prog 64 107 (yaLy T 107 x) (yaLy T 107 p) = some (eqDs (T.enc 107 x) (T.enc 107 p)):=by kernel_rfl
theorem yNqy:KeyOk Tryz.prog T 107:=by
 intro x p
 exact yKly x p
theorem yMwy:∃ kd,Tryz.prog.underlying 107 = some kd:=Option.isSome_iff_exists.1 (by kernel_rfl)
theorem yK1y (x p:G_log_worked):eqT Tryz.prog 64 195 (yaLy T 195 x) (yaLy T 195 p) = some (eqDs (T.enc 195 x) (T.enc 195 p)):=by kernel_rfl
theorem yNHy:KeyOk Tryz.prog T 195:=by
 intro x p
 exact yK1y x p
theorem yNMy:∃ kd,Tryz.prog.underlying 195 = some kd:=Option.isSome_iff_exists.1 (by kernel_rfl)
def keyT (k:Nat):Bool:=k == 3 || k == 9 || k == 49 || k == 107 || k == 195
theorem yFCy:∀ k,keyT k = true→KeyOk Tryz.prog T k∧∃ kd,Tryz.prog.underlying k = some kd:=by
 intro k h
 simp only [keyT,Bool.or_eq_true,beq_iff_eq] at h
 rcases h with (((rfl | rfl) | rfl) | rfl) | rfl
 ·exact ⟨ko_3,kd_3⟩
 ·exact ⟨ko_9,kd_9⟩
 ·exact ⟨ko_49,kd_49⟩
 ·exact ⟨yNqy,yMwy⟩
 ·exact ⟨yNHy,yNMy⟩
theorem yM1y:yemy T flatT:=fun e h x d hd=>yAly (el e) h x d hd
theorem yNsy:SpOk Tryz.prog T 33 .bst:=spBst (ρ:=Tryz.lays169_ren) Tryz.lays169 Tryz.bx169 (by kernel_rfl) rfl (by kernel_rfl) (enters_of (fn:=Tryz.f33) Tryz.func33 (by kernel_rfl) (by kernel_rfl))
theorem yMUy:SpOk Tryz.prog T 32 .bln:=spBln (ρ:=Tryz.lays170_ren) Tryz.lays170 Tryz.bx170 (by kernel_rfl) (by kernel_rfl) (enters_of (fn:=Tryz.f32) Tryz.func32 (by kernel_rfl) (by kernel_rfl))
theorem yNJy:SpOk Tryz.prog T 29 .bwr:=spBwr (ρ:=Tryz.lays156_ren) { Tryz.lays156 with } Tryz.bx156 (by kernel_rfl) rfl (by kernel_rfl) (enters_of (fn:=Tryz.f29) Tryz.func29 (by kernel_rfl) (by kernel_rfl))
def spT:List (Nat×Sp A):=[(29,.bwr),(32,.bln),(33,.bst)]
theorem spAll:SpAll Tryz.prog T spT:=.cons yNJy (.cons yMUy (.cons yNsy (.nil)))
theorem std:Std Tryz.prog T keyT flatT (fun f=>spT.lookup f):=⟨tyOk Tryz.prog,yM1y,yFCy,spAll.ok,by kernel_rfl⟩
abbrev Ok (f:Nat) (S:Spec A):Prop:=OkF Tryz.prog T f S
theorem stdD:Std Tryz.prog TD keyT flatT (fun _=>none):=⟨tyOkD Tryz.prog,fun e h x d hd=>yAly (el e) h x d hd,yFCy,fun _ _ h=>(by cases h),by kernel_rfl⟩
abbrev OkD (f:Nat) (S:Spec A):Prop:=OkF Tryz.prog TD f S
noncomputable def mkE (C:List (Nat×Spec A)) (tg:List (Nat×List Nat)) (lh xh:List (Nat×Hint)) (cl:List (Nat×Piece A)) (sh xs:List (Nat×Hint)) (cs:List (Nat×Piece A)) (md:List (Nat×Nat)) (pin:List Nat):Env A :=
 { P:=Tryz.prog,T:=T,C:=fun f=>C.lookup f,tg:=fun d=>(tg.lookup d).getD [],seqH:=fun i=>sh.lookup i,loopH:=fun i=>lh.lookup i,exitH:=fun i=>xh.lookup i,exitS:=fun i=>xs.lookup i,cutS:=fun i=>cs.lookup i,cutL:=fun i=>cl.lookup i,mode:=fun f i=>md.contains (f,i),sp:=fun f=>spT.lookup f,keyed:=keyT,flat:=flatT,pin:=pin }
noncomputable def mkED (C:List (Nat×Spec A)) (tg:List (Nat×List Nat)) (lh xh:List (Nat×Hint)) (cl:List (Nat×Piece A)) (sh xs:List (Nat×Hint)) (cs:List (Nat×Piece A)) (md:List (Nat×Nat)) (pin:List Nat):Env A :=
 { P:=Tryz.prog,T:=TD,C:=fun f=>C.lookup f,tg:=fun d=>(tg.lookup d).getD [],seqH:=fun i=>sh.lookup i,loopH:=fun i=>lh.lookup i,exitH:=fun i=>xh.lookup i,exitS:=fun i=>xs.lookup i,cutS:=fun i=>cs.lookup i,cutL:=fun i=>cl.lookup i,mode:=fun f i=>md.contains (f,i),keyed:=keyT,flat:=flatT,pin:=pin }
end Go.Am
