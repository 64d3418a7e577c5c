/- The functions of the program as Lean functions, each shown to be what the code computes, part 0. No condition: lemmas for the claim. -/
import Derived.Test.YtnlblmnoiepeaaaGreatDoorAmPrint
import Derived.Test.YtnlblmnoiepeaaaGreatDoorAmIn
import Derived.Test.YtnlblmnoiepeaaaGreatDoorProg
import Derived.KernelRfl
set_option linter.unusedVariables false
set_option maxRecDepth 100000
namespace Go.Am
open Go Go.Proofs
structure G_Stream where
 f_L:List Int
 f_at:Int
 deriving DecidableEq
structure G_Contact where
 f_At:Int
 f_Mode:Int
 f_Band:List UInt8
 f_Call:List UInt8
 f_Sent:Int
 f_Heard:Int
 f_Gave:List UInt8
 f_Got:List UInt8
 deriving DecidableEq
structure G_Spot where
 f_At:Int
 f_Hertz:Int
 f_Call:List UInt8
 f_By:List UInt8
 deriving DecidableEq
structure G_Band where
 f_Key:List UInt8
 f_Low:Int
 f_High:Int
 deriving DecidableEq
structure G_band_worked where
 f_base:List UInt8
 f_band:List UInt8
 deriving DecidableEq
structure G_Entrant where
 f_Call:List UInt8
 f_Category:List UInt8
 f_Points:Int
 f_Locator:List UInt8
 deriving DecidableEq
structure G_Deed where
 f_Site:List UInt8
 f_No:Int
 f_At:Int
 f_Kind:Int
 f_Contact:G_Contact
 f_Band:List UInt8
 f_Of:List UInt8
 f_Other:Int
 deriving DecidableEq
structure G_Pair where
 f_Name:List UInt8
 f_Value:List UInt8
 deriving DecidableEq
structure G_Window where
 f_From:Int
 f_To:Int
 deriving DecidableEq
structure G_Segment where
 f_Class:List UInt8
 f_Low:Int
 f_High:Int
 f_Modes:List Int
 f_Time:G_Window
 deriving DecidableEq
structure G_Parts where
 f_Base:List UInt8
 f_Prefix:List UInt8
 f_Suffix:List UInt8
 f_Kind:Int
 f_Added:List UInt8
 deriving DecidableEq
structure G_band_onBand where
 f_call:List UInt8
 f_band:Int
 deriving DecidableEq
structure G_log_worked where
 f_base:List UInt8
 f_band:List UInt8
 f_mode:Int
 deriving DecidableEq
structure G_Place where
 f_Rank:Int
 f_Points:Int
 f_Key:List UInt8
 deriving DecidableEq
structure G_Row where
 f_From:Int
 f_To:Int
 deriving DecidableEq
structure G_net_own where
 f_site:List UInt8
 f_no:Int
 deriving DecidableEq
inductive El where
 | e3 | e4 | e9 | e25 | e33 | e38 | e42 | e62 | e72 | e88 | e93 | e99 | e107 | e109 | e123 | e131 | e140 | e143 | e165 | e225 | no
def el:Nat→El
 | 3=>.e3
 | 4=>.e4
 | 9=>.e9
 | 25=>.e25
 | 33=>.e33
 | 38=>.e38
 | 42=>.e42
 | 62=>.e62
 | 72=>.e72
 | 88=>.e88
 | 93=>.e93
 | 99=>.e99
 | 107=>.e107
 | 109=>.e109
 | 123=>.e123
 | 131=>.e131
 | 140=>.e140
 | 143=>.e143
 | 165=>.e165
 | 225=>.e225
 | _=>.no
def AE:El→Type
 | .e3=>Int
 | .e4=>Bool
 | .e9=>List UInt8
 | .e25=>G_Stream
 | .e33=>Int
 | .e38=>G_Contact
 | .e42=>G_Spot
 | .e62=>G_Band
 | .e72=>G_band_worked
 | .e88=>G_Entrant
 | .e93=>G_Deed
 | .e99=>G_Pair
 | .e107=>G_Window
 | .e109=>G_Segment
 | .e123=>G_Parts
 | .e131=>G_band_onBand
 | .e140=>G_log_worked
 | .e143=>G_Place
 | .e165=>G_Row
 | .e225=>G_net_own
 | .no=>Unit
abbrev A (e:Nat):Type:=AE (el e)
def sizeE:El→Nat
 | .e3=>1
 | .e4=>1
 | .e9=>1
 | .e25=>2
 | .e33=>1
 | .e38=>8
 | .e42=>4
 | .e62=>3
 | .e72=>2
 | .e88=>4
 | .e93=>15
 | .e99=>2
 | .e107=>2
 | .e109=>6
 | .e123=>5
 | .e131=>2
 | .e140=>3
 | .e143=>3
 | .e165=>2
 | .e225=>2
 | .no=>1
def ywny (x:Int):List (D A):=[.int .i64 x]
def yzay (cs:List (D A)):Option (Int):=match cs with | [c0]=>(dInt .i64 c0).bind fun b1=>some b1 | _=>none
def ywfy (x:Bool):List (D A):=[.bool x]
def yxty (cs:List (D A)):Option (Bool):=match cs with | [c0]=>(dBool c0).bind fun b1=>some b1 | _=>none
def yzfy (x:List UInt8):List (D A):=[.str x]
def ywBy (cs:List (D A)):Option (List UInt8):=match cs with | [c0]=>(dStr c0).bind fun b1=>some b1 | _=>none
def yBLy (x:G_Stream):List (D A):=[.sl 3 x.f_L,.int .i64 x.f_at]
def ys7y (cs:List (D A)):Option (G_Stream):=match cs with | [c0,c1]=>(dSl 3 c0).bind fun b1=>(dInt .i64 c1).bind fun b2=>some ⟨b1,b2⟩ | _=>none
def ys1y (x:Int):List (D A):=[.int .i64 x]
def ys0y (cs:List (D A)):Option (Int):=match cs with | [c0]=>(dInt .i64 c0).bind fun b1=>some b1 | _=>none
def ynSy (x:G_Contact):List (D A):=[.int .i64 x.f_At,.int .i64 x.f_Mode,.str x.f_Band,.str x.f_Call,.int .i64 x.f_Sent,.int .i64 x.f_Heard,.str x.f_Gave,.str x.f_Got]
def ytcy (cs:List (D A)):Option (G_Contact):=match cs with | [c0,c1,c2,c3,c4,c5,c6,c7]=>(dInt .i64 c0).bind fun b1=>(dInt .i64 c1).bind fun b2=>(dStr c2).bind fun b3=>(dStr c3).bind fun b4=>(dInt .i64 c4).bind fun b5=>(dInt .i64 c5).bind fun b6=>(dStr c6).bind fun b7=>(dStr c7).bind fun b8=>some ⟨b1,b2,b3,b4,b5,b6,b7,b8⟩ | _=>none
def ytSy (x:G_Spot):List (D A):=[.int .i64 x.f_At,.int .i64 x.f_Hertz,.str x.f_Call,.str x.f_By]
def ytky (cs:List (D A)):Option (G_Spot):=match cs with | [c0,c1,c2,c3]=>(dInt .i64 c0).bind fun b1=>(dInt .i64 c1).bind fun b2=>(dStr c2).bind fun b3=>(dStr c3).bind fun b4=>some ⟨b1,b2,b3,b4⟩ | _=>none
def ytFy (x:G_Band):List (D A):=[.str x.f_Key,.int .i64 x.f_Low,.int .i64 x.f_High]
def ysWy (cs:List (D A)):Option (G_Band):=match cs with | [c0,c1,c2]=>(dStr c0).bind fun b1=>(dInt .i64 c1).bind fun b2=>(dInt .i64 c2).bind fun b3=>some ⟨b1,b2,b3⟩ | _=>none
def ytjy (x:G_band_worked):List (D A):=[.str x.f_base,.str x.f_band]
def ysXy (cs:List (D A)):Option (G_band_worked):=match cs with | [c0,c1]=>(dStr c0).bind fun b1=>(dStr c1).bind fun b2=>some ⟨b1,b2⟩ | _=>none
def ytry (x:G_Entrant):List (D A):=[.str x.f_Call,.str x.f_Category,.int .i64 x.f_Points,.str x.f_Locator]
def ytpy (cs:List (D A)):Option (G_Entrant):=match cs with | [c0,c1,c2,c3]=>(dStr c0).bind fun b1=>(dStr c1).bind fun b2=>(dInt .i64 c2).bind fun b3=>(dStr c3).bind fun b4=>some ⟨b1,b2,b3,b4⟩ | _=>none
def ytOy (x:G_Deed):List (D A):=[.str x.f_Site,.int .i64 x.f_No,.int .i64 x.f_At,.int .i64 x.f_Kind,.int .i64 x.f_Contact.f_At,.int .i64 x.f_Contact.f_Mode,.str x.f_Contact.f_Band,.str x.f_Contact.f_Call,.int .i64 x.f_Contact.f_Sent,.int .i64 x.f_Contact.f_Heard,.str x.f_Contact.f_Gave,.str x.f_Contact.f_Got,.str x.f_Band,.str x.f_Of,.int .i64 x.f_Other]
def ytCy (cs:List (D A)):Option (G_Deed):=match cs with | [c0,c1,c2,c3,c4,c5,c6,c7,c8,c9,c10,c11,c12,c13,c14]=>(dStr c0).bind fun b1=>(dInt .i64 c1).bind fun b2=>(dInt .i64 c2).bind fun b3=>(dInt .i64 c3).bind fun b4=>(dInt .i64 c4).bind fun b5=>(dInt .i64 c5).bind fun b6=>(dStr c6).bind fun b7=>(dStr c7).bind fun b8=>(dInt .i64 c8).bind fun b9=>(dInt .i64 c9).bind fun b10=>(dStr c10).bind fun b11=>(dStr c11).bind fun b12=>(dStr c12).bind fun b13=>(dStr c13).bind fun b14=>(dInt .i64 c14).bind fun b15=>some ⟨b1,b2,b3,b4,⟨b5,b6,b7,b8,b9,b10,b11,b12⟩,b13,b14,b15⟩ | _=>none
def ytzy (x:G_Pair):List (D A):=[.str x.f_Name,.str x.f_Value]
def ytgy (cs:List (D A)):Option (G_Pair):=match cs with | [c0,c1]=>(dStr c0).bind fun b1=>(dStr c1).bind fun b2=>some ⟨b1,b2⟩ | _=>none
def yqdy (x:G_Window):List (D A):=[.int .i64 x.f_From,.int .i64 x.f_To]
def yqpy (cs:List (D A)):Option (G_Window):=match cs with | [c0,c1]=>(dInt .i64 c0).bind fun b1=>(dInt .i64 c1).bind fun b2=>some ⟨b1,b2⟩ | _=>none
def yypy (x:G_Segment):List (D A):=[.str x.f_Class,.int .i64 x.f_Low,.int .i64 x.f_High,.sl 3 x.f_Modes,.int .i64 x.f_Time.f_From,.int .i64 x.f_Time.f_To]
def yqry (cs:List (D A)):Option (G_Segment):=match cs with | [c0,c1,c2,c3,c4,c5]=>(dStr c0).bind fun b1=>(dInt .i64 c1).bind fun b2=>(dInt .i64 c2).bind fun b3=>(dSl 3 c3).bind fun b4=>(dInt .i64 c4).bind fun b5=>(dInt .i64 c5).bind fun b6=>some ⟨b1,b2,b3,b4,⟨b5,b6⟩⟩ | _=>none
def yp0y (x:G_Parts):List (D A):=[.str x.f_Base,.str x.f_Prefix,.str x.f_Suffix,.int .i64 x.f_Kind,.str x.f_Added]
def yqEy (cs:List (D A)):Option (G_Parts):=match cs with | [c0,c1,c2,c3,c4]=>(dStr c0).bind fun b1=>(dStr c1).bind fun b2=>(dStr c2).bind fun b3=>(dInt .i64 c3).bind fun b4=>(dStr c4).bind fun b5=>some ⟨b1,b2,b3,b4,b5⟩ | _=>none
def yquy (x:G_band_onBand):List (D A):=[.str x.f_call,.int .i64 x.f_band]
def yqzy (cs:List (D A)):Option (G_band_onBand):=match cs with | [c0,c1]=>(dStr c0).bind fun b1=>(dInt .i64 c1).bind fun b2=>some ⟨b1,b2⟩ | _=>none
def yqgy (x:G_log_worked):List (D A):=[.str x.f_base,.str x.f_band,.int .i64 x.f_mode]
def yp3y (cs:List (D A)):Option (G_log_worked):=match cs with | [c0,c1,c2]=>(dStr c0).bind fun b1=>(dStr c1).bind fun b2=>(dInt .i64 c2).bind fun b3=>some ⟨b1,b2,b3⟩ | _=>none
def ylQy (x:G_Place):List (D A):=[.int .i64 x.f_Rank,.int .i64 x.f_Points,.str x.f_Key]
def yp9y (cs:List (D A)):Option (G_Place):=match cs with | [c0,c1,c2]=>(dInt .i64 c0).bind fun b1=>(dInt .i64 c1).bind fun b2=>(dStr c2).bind fun b3=>some ⟨b1,b2,b3⟩ | _=>none
def yl7y (x:G_Row):List (D A):=[.int .i64 x.f_From,.int .i64 x.f_To]
def yqsy (cs:List (D A)):Option (G_Row):=match cs with | [c0,c1]=>(dInt .i64 c0).bind fun b1=>(dInt .i64 c1).bind fun b2=>some ⟨b1,b2⟩ | _=>none
def yqGy (x:G_net_own):List (D A):=[.str x.f_site,.int .i64 x.f_no]
def yp1y (cs:List (D A)):Option (G_net_own):=match cs with | [c0,c1]=>(dStr c0).bind fun b1=>(dInt .i64 c1).bind fun b2=>some ⟨b1,b2⟩ | _=>none
def encE:(k:El)→AE k→List (D A)
 | .e3,x=>ywny x
 | .e4,x=>ywfy x
 | .e9,x=>yzfy x
 | .e25,x=>yBLy x
 | .e33,x=>ys1y x
 | .e38,x=>ynSy x
 | .e42,x=>ytSy x
 | .e62,x=>ytFy x
 | .e72,x=>ytjy x
 | .e88,x=>ytry x
 | .e93,x=>ytOy x
 | .e99,x=>ytzy x
 | .e107,x=>yqdy x
 | .e109,x=>yypy x
 | .e123,x=>yp0y x
 | .e131,x=>yquy x
 | .e140,x=>yqgy x
 | .e143,x=>ylQy x
 | .e165,x=>yl7y x
 | .e225,x=>yqGy x
 | .no,_=>[.nilif]
def decE:(k:El)→List (D A)→Option (AE k)
 | .e3,cs=>yzay cs
 | .e4,cs=>yxty cs
 | .e9,cs=>ywBy cs
 | .e25,cs=>ys7y cs
 | .e33,cs=>ys0y cs
 | .e38,cs=>ytcy cs
 | .e42,cs=>ytky cs
 | .e62,cs=>ysWy cs
 | .e72,cs=>ysXy cs
 | .e88,cs=>ytpy cs
 | .e93,cs=>ytCy cs
 | .e99,cs=>ytgy cs
 | .e107,cs=>yqpy cs
 | .e109,cs=>yqry cs
 | .e123,cs=>yqEy cs
 | .e131,cs=>yqzy cs
 | .e140,cs=>yp3y cs
 | .e143,cs=>yp9y cs
 | .e165,cs=>yqsy cs
 | .e225,cs=>yp1y cs
 | .no,_=>none
def aggE:El→Bool
 | .e3=>false
 | .e4=>false
 | .e9=>false
 | .e25=>true
 | .e33=>false
 | .e38=>true
 | .e42=>true
 | .e62=>true
 | .e72=>true
 | .e88=>true
 | .e93=>true
 | .e99=>true
 | .e107=>true
 | .e109=>true
 | .e123=>true
 | .e131=>true
 | .e140=>true
 | .e143=>true
 | .e165=>true
 | .e225=>true
 | .no=>false
theorem tabg:Tryz.prog.globalNamed "internal/strconv.uint64pow10" = some 1:=by kernel_rfl
def T:Ty A where
 size:=fun e=>sizeE (el e)
 enc:=fun e x=>encE (el e) x
 dec:=fun e cs=>decE (el e) cs
 agg:=fun e=>aggE (el e)
 fix:=[1]
 amb:=fun w=>Lib.TabIs Tryz.prog w "internal/strconv.uint64pow10" .u64 Lib.pow10Tab
 ambOk:=yMNy tabg
theorem lenE:∀ k x,(encE k x).length = sizeE k:=by intro k x; cases k <;> rfl
theorem posE:∀ k,0 < sizeE k:=by intro k; cases k <;> decide
theorem yNzy {U:Ty A} {cs:List (D A)} {x:Int} (h:yzay cs = some x):OkL U cs (ywny x):=by
 unfold yzay at h
 split at h
 ·simp only [Option.bind_eq_some_iff] at h
  obtain ⟨b1,h1,hx⟩:=h
  obtain rfl:=Option.some.inj hx
  exact (.cons (gInt h1) .nil)
 ·cases h
theorem yNwy (x:Int):(ywny x).all D.plain = true:=rfl
theorem yNxy {U:Ty A} {cs:List (D A)} {x:Bool} (h:yxty cs = some x):OkL U cs (ywfy x):=by
 unfold yxty at h
 split at h
 ·simp only [Option.bind_eq_some_iff] at h
  obtain ⟨b1,h1,hx⟩:=h
  obtain rfl:=Option.some.inj hx
  exact (.cons (gBool h1) .nil)
 ·cases h
theorem yN7y (x:Bool):(ywfy x).all D.plain = true:=rfl
theorem yOAy {U:Ty A} {cs:List (D A)} {x:List UInt8} (h:ywBy cs = some x):OkL U cs (yzfy x):=by
 unfold ywBy at h
 split at h
 ·simp only [Option.bind_eq_some_iff] at h
  obtain ⟨b1,h1,hx⟩:=h
  obtain rfl:=Option.some.inj hx
  exact (.cons (gStr h1) .nil)
 ·cases h
theorem yOyy (x:List UInt8):(yzfy x).all D.plain = true:=rfl
theorem yJUy {U:Ty A} {cs:List (D A)} {x:G_Stream} (h:ys7y cs = some x):OkL U cs (yBLy x):=by
 unfold ys7y at h
 split at h
 ·simp only [Option.bind_eq_some_iff] at h
  obtain ⟨b1,h1,b2,h2,hx⟩:=h
  obtain rfl:=Option.some.inj hx
  exact (.cons (gSl h1) (.cons (gInt h2) .nil))
 ·cases h
theorem yLVy {U:Ty A} {cs:List (D A)} {x:Int} (h:ys0y cs = some x):OkL U cs (ys1y x):=by
 unfold ys0y at h
 split at h
 ·simp only [Option.bind_eq_some_iff] at h
  obtain ⟨b1,h1,hx⟩:=h
  obtain rfl:=Option.some.inj hx
  exact (.cons (gInt h1) .nil)
 ·cases h
theorem yIZy (x:Int):(ys1y x).all D.plain = true:=rfl
theorem yJhy {U:Ty A} {cs:List (D A)} {x:G_Contact} (h:ytcy cs = some x):OkL U cs (ynSy x):=by
 unfold ytcy at h
 split at h
 ·simp only [Option.bind_eq_some_iff] at h
  obtain ⟨b1,h1,b2,h2,b3,h3,b4,h4,b5,h5,b6,h6,b7,h7,b8,h8,hx⟩:=h
  obtain rfl:=Option.some.inj hx
  exact (.cons (gInt h1) (.cons (gInt h2) (.cons (gStr h3) (.cons (gStr h4) (.cons (gInt h5) (.cons (gInt h6) (.cons (gStr h7) (.cons (gStr h8) .nil))))))))
 ·cases h
theorem yMmy (x:G_Contact):(ynSy x).all D.plain = true:=rfl
theorem yMAy {U:Ty A} {cs:List (D A)} {x:G_Spot} (h:ytky cs = some x):OkL U cs (ytSy x):=by
 unfold ytky at h
 split at h
 ·simp only [Option.bind_eq_some_iff] at h
  obtain ⟨b1,h1,b2,h2,b3,h3,b4,h4,hx⟩:=h
  obtain rfl:=Option.some.inj hx
  exact (.cons (gInt h1) (.cons (gInt h2) (.cons (gStr h3) (.cons (gStr h4) .nil))))
 ·cases h
theorem yMpy (x:G_Spot):(ytSy x).all D.plain = true:=rfl
theorem yJSy {U:Ty A} {cs:List (D A)} {x:G_Band} (h:ysWy cs = some x):OkL U cs (ytFy x):=by
 unfold ysWy at h
 split at h
 ·simp only [Option.bind_eq_some_iff] at h
  obtain ⟨b1,h1,b2,h2,b3,h3,hx⟩:=h
  obtain rfl:=Option.some.inj hx
  exact (.cons (gStr h1) (.cons (gInt h2) (.cons (gInt h3) .nil)))
 ·cases h
theorem yL5y (x:G_Band):(ytFy x).all D.plain = true:=rfl
theorem yK6y {U:Ty A} {cs:List (D A)} {x:G_band_worked} (h:ysXy cs = some x):OkL U cs (ytjy x):=by
 unfold ysXy at h
 split at h
 ·simp only [Option.bind_eq_some_iff] at h
  obtain ⟨b1,h1,b2,h2,hx⟩:=h
  obtain rfl:=Option.some.inj hx
  exact (.cons (gStr h1) (.cons (gStr h2) .nil))
 ·cases h
theorem yKly (x:G_band_worked):(ytjy x).all D.plain = true:=rfl
theorem yLAy {U:Ty A} {cs:List (D A)} {x:G_Entrant} (h:ytpy cs = some x):OkL U cs (ytry x):=by
 unfold ytpy at h
 split at h
 ·simp only [Option.bind_eq_some_iff] at h
  obtain ⟨b1,h1,b2,h2,b3,h3,b4,h4,hx⟩:=h
  obtain rfl:=Option.some.inj hx
  exact (.cons (gStr h1) (.cons (gStr h2) (.cons (gInt h3) (.cons (gStr h4) .nil))))
 ·cases h
theorem yLDy (x:G_Entrant):(ytry x).all D.plain = true:=rfl
theorem yLsy {U:Ty A} {cs:List (D A)} {x:G_Deed} (h:ytCy cs = some x):OkL U cs (ytOy x):=by
 unfold ytCy at h
 split at h
 ·simp only [Option.bind_eq_some_iff] at h
  obtain ⟨b1,h1,b2,h2,b3,h3,b4,h4,b5,h5,b6,h6,b7,h7,b8,h8,b9,h9,b10,h10,b11,h11,b12,h12,b13,h13,b14,h14,b15,h15,hx⟩:=h
  obtain rfl:=Option.some.inj hx
  exact (.cons (gStr h1) (.cons (gInt h2) (.cons (gInt h3) (.cons (gInt h4) (.cons (gInt h5) (.cons (gInt h6) (.cons (gStr h7) (.cons (gStr h8) (.cons (gInt h9) (.cons (gInt h10) (.cons (gStr h11) (.cons (gStr h12) (.cons (gStr h13) (.cons (gStr h14) (.cons (gInt h15) .nil)))))))))))))))
 ·cases h
theorem yLny (x:G_Deed):(ytOy x).all D.plain = true:=rfl
theorem yJby {U:Ty A} {cs:List (D A)} {x:G_Pair} (h:ytgy cs = some x):OkL U cs (ytzy x):=by
 unfold ytgy at h
 split at h
 ·simp only [Option.bind_eq_some_iff] at h
  obtain ⟨b1,h1,b2,h2,hx⟩:=h
  obtain rfl:=Option.some.inj hx
  exact (.cons (gStr h1) (.cons (gStr h2) .nil))
 ·cases h
theorem yKGy (x:G_Pair):(ytzy x).all D.plain = true:=rfl
theorem yG2y {U:Ty A} {cs:List (D A)} {x:G_Window} (h:yqpy cs = some x):OkL U cs (yqdy x):=by
 unfold yqpy at h
 split at h
 ·simp only [Option.bind_eq_some_iff] at h
  obtain ⟨b1,h1,b2,h2,hx⟩:=h
  obtain rfl:=Option.some.inj hx
  exact (.cons (gInt h1) (.cons (gInt h2) .nil))
 ·cases h
theorem yHvy (x:G_Window):(yqdy x).all D.plain = true:=rfl
theorem yHOy {U:Ty A} {cs:List (D A)} {x:G_Segment} (h:yqry cs = some x):OkL U cs (yypy x):=by
 unfold yqry at h
 split at h
 ·simp only [Option.bind_eq_some_iff] at h
  obtain ⟨b1,h1,b2,h2,b3,h3,b4,h4,b5,h5,b6,h6,hx⟩:=h
  obtain rfl:=Option.some.inj hx
  exact (.cons (gStr h1) (.cons (gInt h2) (.cons (gInt h3) (.cons (gSl h4) (.cons (gInt h5) (.cons (gInt h6) .nil))))))
 ·cases h
theorem yHcy {U:Ty A} {cs:List (D A)} {x:G_Parts} (h:yqEy cs = some x):OkL U cs (yp0y x):=by
 unfold yqEy at h
 split at h
 ·simp only [Option.bind_eq_some_iff] at h
  obtain ⟨b1,h1,b2,h2,b3,h3,b4,h4,b5,h5,hx⟩:=h
  obtain rfl:=Option.some.inj hx
  exact (.cons (gStr h1) (.cons (gStr h2) (.cons (gStr h3) (.cons (gInt h4) (.cons (gStr h5) .nil)))))
 ·cases h
theorem yHry (x:G_Parts):(yp0y x).all D.plain = true:=rfl
theorem yIpy {U:Ty A} {cs:List (D A)} {x:G_band_onBand} (h:yqzy cs = some x):OkL U cs (yquy x):=by
 unfold yqzy at h
 split at h
 ·simp only [Option.bind_eq_some_iff] at h
  obtain ⟨b1,h1,b2,h2,hx⟩:=h
  obtain rfl:=Option.some.inj hx
  exact (.cons (gStr h1) (.cons (gInt h2) .nil))
 ·cases h
theorem yH9y (x:G_band_onBand):(yquy x).all D.plain = true:=rfl
theorem yGQy {U:Ty A} {cs:List (D A)} {x:G_log_worked} (h:yp3y cs = some x):OkL U cs (yqgy x):=by
 unfold yp3y at h
 split at h
 ·simp only [Option.bind_eq_some_iff] at h
  obtain ⟨b1,h1,b2,h2,b3,h3,hx⟩:=h
  obtain rfl:=Option.some.inj hx
  exact (.cons (gStr h1) (.cons (gStr h2) (.cons (gInt h3) .nil)))
 ·cases h
theorem yH8y (x:G_log_worked):(yqgy x).all D.plain = true:=rfl
theorem yIgy {U:Ty A} {cs:List (D A)} {x:G_Place} (h:yp9y cs = some x):OkL U cs (ylQy x):=by
 unfold yp9y at h
 split at h
 ·simp only [Option.bind_eq_some_iff] at h
  obtain ⟨b1,h1,b2,h2,b3,h3,hx⟩:=h
  obtain rfl:=Option.some.inj hx
  exact (.cons (gInt h1) (.cons (gInt h2) (.cons (gStr h3) .nil)))
 ·cases h
theorem yIEy (x:G_Place):(ylQy x).all D.plain = true:=rfl
theorem yHVy {U:Ty A} {cs:List (D A)} {x:G_Row} (h:yqsy cs = some x):OkL U cs (yl7y x):=by
 unfold yqsy at h
 split at h
 ·simp only [Option.bind_eq_some_iff] at h
  obtain ⟨b1,h1,b2,h2,hx⟩:=h
  obtain rfl:=Option.some.inj hx
  exact (.cons (gInt h1) (.cons (gInt h2) .nil))
 ·cases h
theorem yGxy (x:G_Row):(yl7y x).all D.plain = true:=rfl
theorem yGpy {U:Ty A} {cs:List (D A)} {x:G_net_own} (h:yp1y cs = some x):OkL U cs (yqGy x):=by
 unfold yp1y at h
 split at h
 ·simp only [Option.bind_eq_some_iff] at h
  obtain ⟨b1,h1,b2,h2,hx⟩:=h
  obtain rfl:=Option.some.inj hx
  exact (.cons (gStr h1) (.cons (gInt h2) .nil))
 ·cases h
theorem yHYy (x:G_net_own):(yqGy x).all D.plain = true:=rfl
def TD:Ty A:=T.day
theorem decOk {U:Ty A}:∀ k cs x,decE k cs = some x→OkL U cs (encE k x):=by
 intro k cs x h
 cases k
 case e3=>exact yNzy h
 case e4=>exact yNxy h
 case e9=>exact yOAy h
 case e25=>exact yJUy h
 case e33=>exact yLVy h
 case e38=>exact yJhy h
 case e42=>exact yMAy h
 case e62=>exact yJSy h
 case e72=>exact yK6y h
 case e88=>exact yLAy h
 case e93=>exact yLsy h
 case e99=>exact yJby h
 case e107=>exact yG2y h
 case e109=>exact yHOy h
 case e123=>exact yHcy h
 case e131=>exact yIpy h
 case e140=>exact yGQy h
 case e143=>exact yIgy h
 case e165=>exact yHVy h
 case e225=>exact yGpy h
 case no=>cases h
theorem tyOkD (P:Program):TyOk P TD:=⟨fun e x=>lenE (el e) x,fun e=>posE (el e),fun e cs x h=>by
 obtain ⟨h1,h2⟩:=decOk (U:=TD) (el e) cs x h
 exact ⟨h1.trans (lenE (el e) x),h2⟩⟩
theorem tyOk (P:Program):TyOk P T:=⟨fun e x=>lenE (el e) x,fun e=>posE (el e),fun e cs x h=>by
 obtain ⟨h1,h2⟩:=decOk (el e) cs x h
 exact ⟨h1.trans (lenE (el e) x),h2⟩⟩
def flatE:El→Bool
 | .e3=>true
 | .e4=>true
 | .e9=>true
 | .e25=>false
 | .e33=>true
 | .e38=>true
 | .e42=>true
 | .e62=>true
 | .e72=>true
 | .e88=>true
 | .e93=>true
 | .e99=>true
 | .e107=>true
 | .e109=>false
 | .e123=>true
 | .e131=>true
 | .e140=>true
 | .e143=>true
 | .e165=>true
 | .e225=>true
 | .no=>false
def flatT (e:Nat):Bool:=flatE (el e)
theorem yAuy:∀ k,flatE k = true→∀ x d,d ∈ encE k x→D.plain d = true:=by
 intro k h x d hd
 cases k
 case e3=>exact List.all_eq_true.1 (yNwy x) d hd
 case e4=>exact List.all_eq_true.1 (yN7y x) d hd
 case e9=>exact List.all_eq_true.1 (yOyy x) d hd
 case e25=>cases h
 case e33=>exact List.all_eq_true.1 (yIZy x) d hd
 case e38=>exact List.all_eq_true.1 (yMmy x) d hd
 case e42=>exact List.all_eq_true.1 (yMpy x) d hd
 case e62=>exact List.all_eq_true.1 (yL5y x) d hd
 case e72=>exact List.all_eq_true.1 (yKly x) d hd
 case e88=>exact List.all_eq_true.1 (yLDy x) d hd
 case e93=>exact List.all_eq_true.1 (yLny x) d hd
 case e99=>exact List.all_eq_true.1 (yKGy x) d hd
 case e107=>exact List.all_eq_true.1 (yHvy x) d hd
 case e109=>cases h
 case e123=>exact List.all_eq_true.1 (yHry x) d hd
 case e131=>exact List.all_eq_true.1 (yH9y x) d hd
 case e140=>exact List.all_eq_true.1 (yH8y x) d hd
 case e143=>exact List.all_eq_true.1 (yIEy x) d hd
 case e165=>exact List.all_eq_true.1 (yGxy x) d hd
 case e225=>exact List.all_eq_true.1 (yHYy x) d hd
 case no=>cases h
def yhYy (x y:G_Contact):Bool:=(x.f_At == y.f_At && (x.f_Mode == y.f_Mode && (x.f_Band == y.f_Band && (x.f_Call == y.f_Call && (x.f_Sent == y.f_Sent && (x.f_Heard == y.f_Heard && (x.f_Gave == y.f_Gave && (x.f_Got == y.f_Got && true))))))))
def ycVy (x y:G_Spot):Bool:=(x.f_At == y.f_At && (x.f_Hertz == y.f_Hertz && (x.f_Call == y.f_Call && (x.f_By == y.f_By && true))))
def ycby (x:Int) (m:List (Int×Int)):Option Int:=getM T 3 3 x m
def yh5y (x:Int) (m:List (Int×Int)):List (Int×Int):=delM T 3 3 x m
def yduy (x:Int) (y:Int) (m:List (Int×Int)):List (Int×Int):=setM T 3 3 x y m
def ytiy (x y:Int):Bool:=(x == y && true)
theorem mget_int_int_nil (x:Int):ycby x [] = none:=by kernel_rfl
theorem mget_int_int_cons (x:Int) (p:Int×Int) (m:List (Int×Int)):ycby x (p :: m) = bif ytiy x p.1 then some p.2 else ycby x m:=by kernel_rfl
theorem mdel_int_int_nil (x:Int):yh5y x [] = []:=by kernel_rfl
theorem mdel_int_int_cons (x:Int) (p:Int×Int) (m:List (Int×Int)):yh5y x (p :: m) = bif ytiy x p.1 then m else p :: yh5y x m:=by kernel_rfl
theorem mset_int_int_nil (x:Int) (y:Int):yduy x y [] = [(x,y)]:=by kernel_rfl
theorem mset_int_int_cons (x:Int) (y:Int) (p:Int×Int) (m:List (Int×Int)):yduy x y (p :: m) = bif ytiy x p.1 then (x,y) :: m else p :: yduy x y m:=by kernel_rfl
def yaMy (x:G_Contact) (m:List (G_Contact×G_Deed)):Option G_Deed:=getM T 38 93 x m
def ydVy (x:G_Contact) (m:List (G_Contact×G_Deed)):List (G_Contact×G_Deed):=delM T 38 93 x m
def ya8y (x:G_Contact) (y:G_Deed) (m:List (G_Contact×G_Deed)):List (G_Contact×G_Deed):=setM T 38 93 x y m
def yjly (x y:G_Contact):Bool:=(x.f_At == y.f_At && (x.f_Mode == y.f_Mode && (x.f_Band == y.f_Band && (x.f_Call == y.f_Call && (x.f_Sent == y.f_Sent && (x.f_Heard == y.f_Heard && (x.f_Gave == y.f_Gave && (x.f_Got == y.f_Got && true))))))))
theorem mget_Contact_Deed_nil (x:G_Contact):yaMy x [] = none:=by kernel_rfl
theorem mget_Contact_Deed_cons (x:G_Contact) (p:G_Contact×G_Deed) (m:List (G_Contact×G_Deed)):yaMy x (p :: m) = bif yjly x p.1 then some p.2 else yaMy x m:=by kernel_rfl
theorem mdel_Contact_Deed_nil (x:G_Contact):ydVy x [] = []:=by kernel_rfl
theorem mdel_Contact_Deed_cons (x:G_Contact) (p:G_Contact×G_Deed) (m:List (G_Contact×G_Deed)):ydVy x (p :: m) = bif yjly x p.1 then m else p :: ydVy x m:=by kernel_rfl
theorem mset_Contact_Deed_nil (x:G_Contact) (y:G_Deed):ya8y x y [] = [(x,y)]:=by kernel_rfl
theorem mset_Contact_Deed_cons (x:G_Contact) (y:G_Deed) (p:G_Contact×G_Deed) (m:List (G_Contact×G_Deed)):ya8y x y (p :: m) = bif yjly x p.1 then (x,y) :: m else p :: ya8y x y m:=by kernel_rfl
def ybfy (x:G_band_worked) (m:List (G_band_worked×Bool)):Option Bool:=getM T 72 4 x m
def ycBy (x:G_band_worked) (m:List (G_band_worked×Bool)):List (G_band_worked×Bool):=delM T 72 4 x m
def ycCy (x:G_band_worked) (y:Bool) (m:List (G_band_worked×Bool)):List (G_band_worked×Bool):=setM T 72 4 x y m
def ydky (x y:G_band_worked):Bool:=(x.f_base == y.f_base && (x.f_band == y.f_band && true))
theorem mget_band_worked_bool_nil (x:G_band_worked):ybfy x [] = none:=by kernel_rfl
theorem mget_band_worked_bool_cons (x:G_band_worked) (p:G_band_worked×Bool) (m:List (G_band_worked×Bool)):ybfy x (p :: m) = bif ydky x p.1 then some p.2 else ybfy x m:=by kernel_rfl
theorem mdel_band_worked_bool_nil (x:G_band_worked):ycBy x [] = []:=by kernel_rfl
theorem mdel_band_worked_bool_cons (x:G_band_worked) (p:G_band_worked×Bool) (m:List (G_band_worked×Bool)):ycBy x (p :: m) = bif ydky x p.1 then m else p :: ycBy x m:=by kernel_rfl
theorem mset_band_worked_bool_nil (x:G_band_worked) (y:Bool):ycCy x y [] = [(x,y)]:=by kernel_rfl
theorem mset_band_worked_bool_cons (x:G_band_worked) (y:Bool) (p:G_band_worked×Bool) (m:List (G_band_worked×Bool)):ycCy x y (p :: m) = bif ydky x p.1 then (x,y) :: m else p :: ycCy x y m:=by kernel_rfl
def yany (x:G_band_onBand) (m:List (G_band_onBand×Bool)):Option Bool:=getM T 131 4 x m
def ycMy (x:G_band_onBand) (m:List (G_band_onBand×Bool)):List (G_band_onBand×Bool):=delM T 131 4 x m
def yaWy (x:G_band_onBand) (y:Bool) (m:List (G_band_onBand×Bool)):List (G_band_onBand×Bool):=setM T 131 4 x y m
def ybdy (x y:G_band_onBand):Bool:=(x.f_call == y.f_call && (x.f_band == y.f_band && true))
theorem mget_band_onBand_bool_nil (x:G_band_onBand):yany x [] = none:=by kernel_rfl
theorem mget_band_onBand_bool_cons (x:G_band_onBand) (p:G_band_onBand×Bool) (m:List (G_band_onBand×Bool)):yany x (p :: m) = bif ybdy x p.1 then some p.2 else yany x m:=by kernel_rfl
theorem mdel_band_onBand_bool_nil (x:G_band_onBand):ycMy x [] = []:=by kernel_rfl
theorem mdel_band_onBand_bool_cons (x:G_band_onBand) (p:G_band_onBand×Bool) (m:List (G_band_onBand×Bool)):ycMy x (p :: m) = bif ybdy x p.1 then m else p :: ycMy x m:=by kernel_rfl
theorem mset_band_onBand_bool_nil (x:G_band_onBand) (y:Bool):yaWy x y [] = [(x,y)]:=by kernel_rfl
theorem mset_band_onBand_bool_cons (x:G_band_onBand) (y:Bool) (p:G_band_onBand×Bool) (m:List (G_band_onBand×Bool)):yaWy x y (p :: m) = bif ybdy x p.1 then (x,y) :: m else p :: yaWy x y m:=by kernel_rfl
def yb5y (x:G_log_worked) (m:List (G_log_worked×Bool)):Option Bool:=getM T 140 4 x m
def yc3y (x:G_log_worked) (m:List (G_log_worked×Bool)):List (G_log_worked×Bool):=delM T 140 4 x m
def ybGy (x:G_log_worked) (y:Bool) (m:List (G_log_worked×Bool)):List (G_log_worked×Bool):=setM T 140 4 x y m
def ygsy (x y:G_log_worked):Bool:=(x.f_base == y.f_base && (x.f_band == y.f_band && (x.f_mode == y.f_mode && true)))
theorem mget_log_worked_bool_nil (x:G_log_worked):yb5y x [] = none:=by kernel_rfl
theorem mget_log_worked_bool_cons (x:G_log_worked) (p:G_log_worked×Bool) (m:List (G_log_worked×Bool)):yb5y x (p :: m) = bif ygsy x p.1 then some p.2 else yb5y x m:=by kernel_rfl
theorem mdel_log_worked_bool_nil (x:G_log_worked):yc3y x [] = []:=by kernel_rfl
theorem mdel_log_worked_bool_cons (x:G_log_worked) (p:G_log_worked×Bool) (m:List (G_log_worked×Bool)):yc3y x (p :: m) = bif ygsy x p.1 then m else p :: yc3y x m:=by kernel_rfl
theorem mset_log_worked_bool_nil (x:G_log_worked) (y:Bool):ybGy x y [] = [(x,y)]:=by kernel_rfl
theorem mset_log_worked_bool_cons (x:G_log_worked) (y:Bool) (p:G_log_worked×Bool) (m:List (G_log_worked×Bool)):ybGy x y (p :: m) = bif ygsy x p.1 then (x,y) :: m else p :: ybGy x y m:=by kernel_rfl
def yb2y (x:G_net_own) (m:List (G_net_own×Bool)):Option Bool:=getM T 225 4 x m
def yaSy (x:G_net_own) (m:List (G_net_own×Bool)):List (G_net_own×Bool):=delM T 225 4 x m
def ya9y (x:G_net_own) (y:Bool) (m:List (G_net_own×Bool)):List (G_net_own×Bool):=setM T 225 4 x y m
def yi9y (x y:G_net_own):Bool:=(x.f_site == y.f_site && (x.f_no == y.f_no && true))
theorem mget_net_own_bool_nil (x:G_net_own):yb2y x [] = none:=by kernel_rfl
theorem mget_net_own_bool_cons (x:G_net_own) (p:G_net_own×Bool) (m:List (G_net_own×Bool)):yb2y x (p :: m) = bif yi9y x p.1 then some p.2 else yb2y x m:=by kernel_rfl
theorem mdel_net_own_bool_nil (x:G_net_own):yaSy x [] = []:=by kernel_rfl
theorem mdel_net_own_bool_cons (x:G_net_own) (p:G_net_own×Bool) (m:List (G_net_own×Bool)):yaSy x (p :: m) = bif yi9y x p.1 then m else p :: yaSy x m:=by kernel_rfl
theorem mset_net_own_bool_nil (x:G_net_own) (y:Bool):ya9y x y [] = [(x,y)]:=by kernel_rfl
theorem mset_net_own_bool_cons (x:G_net_own) (y:Bool) (p:G_net_own×Bool) (m:List (G_net_own×Bool)):ya9y x y (p :: m) = bif yi9y x p.1 then (x,y) :: m else p :: ya9y x y m:=by kernel_rfl
theorem ko_3x (x p:Int):eqT Tryz.prog 64 3 (yaHy T 3 x) (yaHy T 3 p) = some ((x:Int) == (p:Int)):=by kernel_rfl
theorem ko_3y (x p:Int):some (eqDs (T.enc 3 x) (T.enc 3 p)) = some ((x == p) && true):=by kernel_rfl
theorem ko_3z (x p:Int):eqT Tryz.prog 64 3 (yaHy T 3 x) (yaHy T 3 p) = some (eqDs (T.enc 3 x) (T.enc 3 p)):=(ko_3x x p).trans (((congrArg some (Bool.and_true (x == p))).symm).trans (ko_3y x p).symm)
theorem ko_3:KeyOk Tryz.prog T 3:=fun x p=>ko_3z x p
theorem kd_3:∃ kd,Tryz.prog.underlying 3 = some kd:=Option.isSome_iff_exists.1 (by kernel_rfl)
theorem yOfy (x p:G_Contact):eqT Tryz.prog 64 38 (yaHy T 38 x) (yaHy T 38 p) = some (eqDs (T.enc 38 x) (T.enc 38 p)):=by kernel_rfl
theorem ko_38:KeyOk Tryz.prog T 38:=by
 intro x p
 exact yOfy x p
theorem kd_38:∃ kd,Tryz.prog.underlying 38 = some kd:=Option.isSome_iff_exists.1 (by kernel_rfl)
theorem yN4y (x p:G_band_worked):eqT Tryz.prog 64 72 (yaHy T 72 x) (yaHy T 72 p) = some (eqDs (T.enc 72 x) (T.enc 72 p)):=by kernel_rfl
theorem ko_72:KeyOk Tryz.prog T 72:=by
 intro x p
 exact yN4y x p
theorem kd_72:∃ kd,Tryz.prog.underlying 72 = some kd:=Option.isSome_iff_exists.1 (by kernel_rfl)
theorem yMCy (x p:G_band_onBand):eqT Tryz.prog 64 131 (yaHy T 131 x) (yaHy T 131 p) = some (eqDs (T.enc 131 x) (T.enc 131 p)):=by kernel_rfl
theorem yNVy:KeyOk Tryz.prog T 131:=by
 intro x p
 exact yMCy x p
theorem yOly:∃ kd,Tryz.prog.underlying 131 = some kd:=Option.isSome_iff_exists.1 (by kernel_rfl)
theorem yJcy (x p:G_log_worked):eqT Tryz.prog 64 140 (yaHy T 140 x) (yaHy T 140 p) = some (eqDs (T.enc 140 x) (T.enc 140 p)):=by kernel_rfl
theorem yNWy:KeyOk Tryz.prog T 140:=by
 intro x p
 exact yJcy x p
theorem yNYy:∃ kd,Tryz.prog.underlying 140 = some kd:=Option.isSome_iff_exists.1 (by kernel_rfl)
theorem yJDy (x p:G_net_own):eqT Tryz.prog 64 225 (yaHy T 225 x) (yaHy T 225 p) = some (eqDs (T.enc 225 x) (T.enc 225 p)):=by kernel_rfl
theorem yNuy:KeyOk Tryz.prog T 225:=by
 intro x p
 exact yJDy x p
theorem yNoy:∃ kd,Tryz.prog.underlying 225 = some kd:=Option.isSome_iff_exists.1 (by kernel_rfl)
def keyT (k:Nat):Bool:=k == 3 || k == 38 || k == 72 || k == 131 || k == 140 || k == 225
theorem yEay:∀ k,keyT k = true→KeyOk Tryz.prog T k∧∃ kd,Tryz.prog.underlying k = some kd:=by
 intro k h
 simp only [keyT,Bool.or_eq_true,beq_iff_eq] at h
 rcases h with ((((rfl | rfl) | rfl) | rfl) | rfl) | rfl
 ·exact ⟨ko_3,kd_3⟩
 ·exact ⟨ko_38,kd_38⟩
 ·exact ⟨ko_72,kd_72⟩
 ·exact ⟨yNVy,yOly⟩
 ·exact ⟨yNWy,yNYy⟩
 ·exact ⟨yNuy,yNoy⟩
theorem yOny:yd7y T flatT:=fun e h x d hd=>yAuy (el e) h x d hd
def spT:List (Nat×Sp A):=[]
theorem spAll:SpAll Tryz.prog T spT:=.nil
theorem std:Std Tryz.prog T keyT flatT (fun f=>spT.lookup f):=⟨tyOk Tryz.prog,yOny,yEay,spAll.ok,by kernel_rfl⟩
abbrev Ok (f:Nat) (S:Spec A):Prop:=OkF Tryz.prog T f S
theorem stdD:Std Tryz.prog TD keyT flatT (fun _=>none):=⟨tyOkD Tryz.prog,fun e h x d hd=>yAuy (el e) h x d hd,yEay,fun _ _ h=>(by cases h),by kernel_rfl⟩
abbrev OkD (f:Nat) (S:Spec A):Prop:=OkF Tryz.prog TD f S
noncomputable def mkE (C:List (Nat×Spec A)) (tg:List (Nat×List Nat)) (lh xh:List (Nat×Hint)) (cl:List (Nat×Piece A)) (sh xs:List (Nat×Hint)) (cs:List (Nat×Piece A)) (md:List (Nat×Nat)) (pin:List Nat):Env A :=
 { P:=Tryz.prog,T:=T,C:=fun f=>C.lookup f,tg:=fun d=>(tg.lookup d).getD [],seqH:=fun i=>sh.lookup i,loopH:=fun i=>lh.lookup i,exitH:=fun i=>xh.lookup i,exitS:=fun i=>xs.lookup i,cutS:=fun i=>cs.lookup i,cutL:=fun i=>cl.lookup i,mode:=fun f i=>md.contains (f,i),sp:=fun f=>spT.lookup f,keyed:=keyT,flat:=flatT,pin:=pin }
noncomputable def mkED (C:List (Nat×Spec A)) (tg:List (Nat×List Nat)) (lh xh:List (Nat×Hint)) (cl:List (Nat×Piece A)) (sh xs:List (Nat×Hint)) (cs:List (Nat×Piece A)) (md:List (Nat×Nat)) (pin:List Nat):Env A :=
 { P:=Tryz.prog,T:=TD,C:=fun f=>C.lookup f,tg:=fun d=>(tg.lookup d).getD [],seqH:=fun i=>sh.lookup i,loopH:=fun i=>lh.lookup i,exitH:=fun i=>xh.lookup i,exitS:=fun i=>xs.lookup i,cutS:=fun i=>cs.lookup i,cutL:=fun i=>cl.lookup i,mode:=fun f i=>md.contains (f,i),keyed:=keyT,flat:=flatT,pin:=pin }
end Go.Am
