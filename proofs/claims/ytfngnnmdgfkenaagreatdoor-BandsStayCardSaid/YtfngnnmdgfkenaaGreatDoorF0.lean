/- The functions of the program as Lean functions, each shown to be what the code computes, part 0. No condition: lemmas for the claim. -/
import Derived.Test.YtfngnnmdgfkenaaGreatDoorAmPrint
import Derived.Test.YtfngnnmdgfkenaaGreatDoorAmIn
import Derived.Test.YtfngnnmdgfkenaaGreatDoorProg
import Derived.KernelRfl
set_option linter.unusedVariables false
set_option maxRecDepth 100000
namespace Go.Am
open Go Go.Proofs
structure G_Stream where
 f_L:List Int
 f_at:Int
 deriving DecidableEq
structure G_Spot where
 f_At:Int
 f_Hertz:Int
 f_Call:List UInt8
 f_By:List UInt8
 deriving DecidableEq
structure G_Row where
 f_From:Int
 f_To:Int
 deriving DecidableEq
structure G_Window where
 f_From:Int
 f_To:Int
 deriving DecidableEq
structure G_Segment where
 f_Class:List UInt8
 f_Low:Int
 f_High:Int
 f_Modes:List Int
 f_Time:G_Window
 deriving DecidableEq
structure G_Busy where
 f_Who:List UInt8
 f_Hertz:Int
 f_Width:Int
 f_Time:G_Window
 deriving DecidableEq
structure G_Band where
 f_Key:List UInt8
 f_Low:Int
 f_High:Int
 deriving DecidableEq
structure G_Contact where
 f_At:Int
 f_Mode:Int
 f_Band:List UInt8
 f_Call:List UInt8
 f_Sent:Int
 f_Heard:Int
 f_Gave:List UInt8
 f_Got:List UInt8
 deriving DecidableEq
structure G_Entrant where
 f_Call:List UInt8
 f_Category:List UInt8
 f_Points:Int
 f_Locator:List UInt8
 deriving DecidableEq
structure G_Deed where
 f_Site:List UInt8
 f_No:Int
 f_At:Int
 f_Kind:Int
 f_Contact:G_Contact
 f_Band:List UInt8
 f_Of:List UInt8
 f_Other:Int
 deriving DecidableEq
structure G_band_onBand where
 f_call:List UInt8
 f_band:Int
 deriving DecidableEq
structure G_Place where
 f_Rank:Int
 f_Points:Int
 f_Key:List UInt8
 deriving DecidableEq
structure G_Parts where
 f_Base:List UInt8
 f_Prefix:List UInt8
 f_Suffix:List UInt8
 f_Kind:Int
 f_Added:List UInt8
 deriving DecidableEq
structure G_log_worked where
 f_base:List UInt8
 f_band:List UInt8
 f_mode:Int
 deriving DecidableEq
structure G_net_own where
 f_site:List UInt8
 f_no:Int
 deriving DecidableEq
inductive El where
 | e3 | e4 | e9 | e25 | e30 | e35 | e40 | e45 | e50 | e52 | e58 | e62 | e89 | e99 | e104 | e131 | e141 | e155 | e186 | e223 | no
def el:Nat→El
 | 3=>.e3
 | 4=>.e4
 | 9=>.e9
 | 25=>.e25
 | 30=>.e30
 | 35=>.e35
 | 40=>.e40
 | 45=>.e45
 | 50=>.e50
 | 52=>.e52
 | 58=>.e58
 | 62=>.e62
 | 89=>.e89
 | 99=>.e99
 | 104=>.e104
 | 131=>.e131
 | 141=>.e141
 | 155=>.e155
 | 186=>.e186
 | 223=>.e223
 | _=>.no
def AE:El→Type
 | .e3=>Int
 | .e4=>Bool
 | .e9=>List UInt8
 | .e25=>G_Stream
 | .e30=>List G_Spot
 | .e35=>Int
 | .e40=>G_Row
 | .e45=>G_Spot
 | .e50=>G_Window
 | .e52=>G_Segment
 | .e58=>G_Busy
 | .e62=>G_Band
 | .e89=>G_Contact
 | .e99=>G_Entrant
 | .e104=>G_Deed
 | .e131=>G_band_onBand
 | .e141=>G_Place
 | .e155=>G_Parts
 | .e186=>G_log_worked
 | .e223=>G_net_own
 | .no=>Unit
abbrev A (e:Nat):Type:=AE (el e)
def sizeE:El→Nat
 | .e3=>1
 | .e4=>1
 | .e9=>1
 | .e25=>2
 | .e30=>1
 | .e35=>1
 | .e40=>2
 | .e45=>4
 | .e50=>2
 | .e52=>6
 | .e58=>5
 | .e62=>3
 | .e89=>8
 | .e99=>4
 | .e104=>15
 | .e131=>2
 | .e141=>3
 | .e155=>5
 | .e186=>3
 | .e223=>2
 | .no=>1
def yzly (x:Int):List (D A):=[.int .i64 x]
def yxQy (cs:List (D A)):Option (Int):=match cs with | [c0]=>(dInt .i64 c0).bind fun b1=>some b1 | _=>none
def yAAy (x:Bool):List (D A):=[.bool x]
def yymy (cs:List (D A)):Option (Bool):=match cs with | [c0]=>(dBool c0).bind fun b1=>some b1 | _=>none
def yzby (x:List UInt8):List (D A):=[.str x]
def yASy (cs:List (D A)):Option (List UInt8):=match cs with | [c0]=>(dStr c0).bind fun b1=>some b1 | _=>none
def yCyy (x:G_Stream):List (D A):=[.sl 3 x.f_L,.int .i64 x.f_at]
def yuZy (cs:List (D A)):Option (G_Stream):=match cs with | [c0,c1]=>(dSl 3 c0).bind fun b1=>(dInt .i64 c1).bind fun b2=>some ⟨b1,b2⟩ | _=>none
def yDNy (x:List G_Spot):List (D A):=[.sl 45 x]
def yvsy (cs:List (D A)):Option (List G_Spot):=match cs with | [c0]=>(dSl 45 c0).bind fun b1=>some b1 | _=>none
def yvoy (x:Int):List (D A):=[.int .i64 x]
def yt6y (cs:List (D A)):Option (Int):=match cs with | [c0]=>(dInt .i64 c0).bind fun b1=>some b1 | _=>none
def ypMy (x:G_Row):List (D A):=[.int .i64 x.f_From,.int .i64 x.f_To]
def yvay (cs:List (D A)):Option (G_Row):=match cs with | [c0,c1]=>(dInt .i64 c0).bind fun b1=>(dInt .i64 c1).bind fun b2=>some ⟨b1,b2⟩ | _=>none
def yoNy (x:G_Spot):List (D A):=[.int .i64 x.f_At,.int .i64 x.f_Hertz,.str x.f_Call,.str x.f_By]
def yugy (cs:List (D A)):Option (G_Spot):=match cs with | [c0,c1,c2,c3]=>(dInt .i64 c0).bind fun b1=>(dInt .i64 c1).bind fun b2=>(dStr c2).bind fun b3=>(dStr c3).bind fun b4=>some ⟨b1,b2,b3,b4⟩ | _=>none
def yu3y (x:G_Window):List (D A):=[.int .i64 x.f_From,.int .i64 x.f_To]
def yuAy (cs:List (D A)):Option (G_Window):=match cs with | [c0,c1]=>(dInt .i64 c0).bind fun b1=>(dInt .i64 c1).bind fun b2=>some ⟨b1,b2⟩ | _=>none
def yDUy (x:G_Segment):List (D A):=[.str x.f_Class,.int .i64 x.f_Low,.int .i64 x.f_High,.sl 3 x.f_Modes,.int .i64 x.f_Time.f_From,.int .i64 x.f_Time.f_To]
def yuHy (cs:List (D A)):Option (G_Segment):=match cs with | [c0,c1,c2,c3,c4,c5]=>(dStr c0).bind fun b1=>(dInt .i64 c1).bind fun b2=>(dInt .i64 c2).bind fun b3=>(dSl 3 c3).bind fun b4=>(dInt .i64 c4).bind fun b5=>(dInt .i64 c5).bind fun b6=>some ⟨b1,b2,b3,b4,⟨b5,b6⟩⟩ | _=>none
def yu9y (x:G_Busy):List (D A):=[.str x.f_Who,.int .i64 x.f_Hertz,.int .i64 x.f_Width,.int .i64 x.f_Time.f_From,.int .i64 x.f_Time.f_To]
def yuSy (cs:List (D A)):Option (G_Busy):=match cs with | [c0,c1,c2,c3,c4]=>(dStr c0).bind fun b1=>(dInt .i64 c1).bind fun b2=>(dInt .i64 c2).bind fun b3=>(dInt .i64 c3).bind fun b4=>(dInt .i64 c4).bind fun b5=>some ⟨b1,b2,b3,⟨b4,b5⟩⟩ | _=>none
def yuDy (x:G_Band):List (D A):=[.str x.f_Key,.int .i64 x.f_Low,.int .i64 x.f_High]
def yvhy (cs:List (D A)):Option (G_Band):=match cs with | [c0,c1,c2]=>(dStr c0).bind fun b1=>(dInt .i64 c1).bind fun b2=>(dInt .i64 c2).bind fun b3=>some ⟨b1,b2,b3⟩ | _=>none
def ypgy (x:G_Contact):List (D A):=[.int .i64 x.f_At,.int .i64 x.f_Mode,.str x.f_Band,.str x.f_Call,.int .i64 x.f_Sent,.int .i64 x.f_Heard,.str x.f_Gave,.str x.f_Got]
def yuvy (cs:List (D A)):Option (G_Contact):=match cs with | [c0,c1,c2,c3,c4,c5,c6,c7]=>(dInt .i64 c0).bind fun b1=>(dInt .i64 c1).bind fun b2=>(dStr c2).bind fun b3=>(dStr c3).bind fun b4=>(dInt .i64 c4).bind fun b5=>(dInt .i64 c5).bind fun b6=>(dStr c6).bind fun b7=>(dStr c7).bind fun b8=>some ⟨b1,b2,b3,b4,b5,b6,b7,b8⟩ | _=>none
def yuIy (x:G_Entrant):List (D A):=[.str x.f_Call,.str x.f_Category,.int .i64 x.f_Points,.str x.f_Locator]
def yvxy (cs:List (D A)):Option (G_Entrant):=match cs with | [c0,c1,c2,c3]=>(dStr c0).bind fun b1=>(dStr c1).bind fun b2=>(dInt .i64 c2).bind fun b3=>(dStr c3).bind fun b4=>some ⟨b1,b2,b3,b4⟩ | _=>none
def yqLy (x:G_Deed):List (D A):=[.str x.f_Site,.int .i64 x.f_No,.int .i64 x.f_At,.int .i64 x.f_Kind,.int .i64 x.f_Contact.f_At,.int .i64 x.f_Contact.f_Mode,.str x.f_Contact.f_Band,.str x.f_Contact.f_Call,.int .i64 x.f_Contact.f_Sent,.int .i64 x.f_Contact.f_Heard,.str x.f_Contact.f_Gave,.str x.f_Contact.f_Got,.str x.f_Band,.str x.f_Of,.int .i64 x.f_Other]
def yqPy (cs:List (D A)):Option (G_Deed):=match cs with | [c0,c1,c2,c3,c4,c5,c6,c7,c8,c9,c10,c11,c12,c13,c14]=>(dStr c0).bind fun b1=>(dInt .i64 c1).bind fun b2=>(dInt .i64 c2).bind fun b3=>(dInt .i64 c3).bind fun b4=>(dInt .i64 c4).bind fun b5=>(dInt .i64 c5).bind fun b6=>(dStr c6).bind fun b7=>(dStr c7).bind fun b8=>(dInt .i64 c8).bind fun b9=>(dInt .i64 c9).bind fun b10=>(dStr c10).bind fun b11=>(dStr c11).bind fun b12=>(dStr c12).bind fun b13=>(dStr c13).bind fun b14=>(dInt .i64 c14).bind fun b15=>some ⟨b1,b2,b3,b4,⟨b5,b6,b7,b8,b9,b10,b11,b12⟩,b13,b14,b15⟩ | _=>none
def yq8y (x:G_band_onBand):List (D A):=[.str x.f_call,.int .i64 x.f_band]
def yq9y (cs:List (D A)):Option (G_band_onBand):=match cs with | [c0,c1]=>(dStr c0).bind fun b1=>(dInt .i64 c1).bind fun b2=>some ⟨b1,b2⟩ | _=>none
def ymLy (x:G_Place):List (D A):=[.int .i64 x.f_Rank,.int .i64 x.f_Points,.str x.f_Key]
def yqQy (cs:List (D A)):Option (G_Place):=match cs with | [c0,c1,c2]=>(dInt .i64 c0).bind fun b1=>(dInt .i64 c1).bind fun b2=>(dStr c2).bind fun b3=>some ⟨b1,b2,b3⟩ | _=>none
def yq2y (x:G_Parts):List (D A):=[.str x.f_Base,.str x.f_Prefix,.str x.f_Suffix,.int .i64 x.f_Kind,.str x.f_Added]
def yq4y (cs:List (D A)):Option (G_Parts):=match cs with | [c0,c1,c2,c3,c4]=>(dStr c0).bind fun b1=>(dStr c1).bind fun b2=>(dStr c2).bind fun b3=>(dInt .i64 c3).bind fun b4=>(dStr c4).bind fun b5=>some ⟨b1,b2,b3,b4,b5⟩ | _=>none
def yqYy (x:G_log_worked):List (D A):=[.str x.f_base,.str x.f_band,.int .i64 x.f_mode]
def yrgy (cs:List (D A)):Option (G_log_worked):=match cs with | [c0,c1,c2]=>(dStr c0).bind fun b1=>(dStr c1).bind fun b2=>(dInt .i64 c2).bind fun b3=>some ⟨b1,b2,b3⟩ | _=>none
def yq3y (x:G_net_own):List (D A):=[.str x.f_site,.int .i64 x.f_no]
def yriy (cs:List (D A)):Option (G_net_own):=match cs with | [c0,c1]=>(dStr c0).bind fun b1=>(dInt .i64 c1).bind fun b2=>some ⟨b1,b2⟩ | _=>none
def encE:(k:El)→AE k→List (D A)
 | .e3,x=>yzly x
 | .e4,x=>yAAy x
 | .e9,x=>yzby x
 | .e25,x=>yCyy x
 | .e30,x=>yDNy x
 | .e35,x=>yvoy x
 | .e40,x=>ypMy x
 | .e45,x=>yoNy x
 | .e50,x=>yu3y x
 | .e52,x=>yDUy x
 | .e58,x=>yu9y x
 | .e62,x=>yuDy x
 | .e89,x=>ypgy x
 | .e99,x=>yuIy x
 | .e104,x=>yqLy x
 | .e131,x=>yq8y x
 | .e141,x=>ymLy x
 | .e155,x=>yq2y x
 | .e186,x=>yqYy x
 | .e223,x=>yq3y x
 | .no,_=>[.nilif]
def decE:(k:El)→List (D A)→Option (AE k)
 | .e3,cs=>yxQy cs
 | .e4,cs=>yymy cs
 | .e9,cs=>yASy cs
 | .e25,cs=>yuZy cs
 | .e30,cs=>yvsy cs
 | .e35,cs=>yt6y cs
 | .e40,cs=>yvay cs
 | .e45,cs=>yugy cs
 | .e50,cs=>yuAy cs
 | .e52,cs=>yuHy cs
 | .e58,cs=>yuSy cs
 | .e62,cs=>yvhy cs
 | .e89,cs=>yuvy cs
 | .e99,cs=>yvxy cs
 | .e104,cs=>yqPy cs
 | .e131,cs=>yq9y cs
 | .e141,cs=>yqQy cs
 | .e155,cs=>yq4y cs
 | .e186,cs=>yrgy cs
 | .e223,cs=>yriy cs
 | .no,_=>none
def aggE:El→Bool
 | .e3=>false
 | .e4=>false
 | .e9=>false
 | .e25=>true
 | .e30=>false
 | .e35=>false
 | .e40=>true
 | .e45=>true
 | .e50=>true
 | .e52=>true
 | .e58=>true
 | .e62=>true
 | .e89=>true
 | .e99=>true
 | .e104=>true
 | .e131=>true
 | .e141=>true
 | .e155=>true
 | .e186=>true
 | .e223=>true
 | .no=>false
def T:Ty A where
 size:=fun e=>sizeE (el e)
 enc:=fun e x=>encE (el e) x
 dec:=fun e cs=>decE (el e) cs
 agg:=fun e=>aggE (el e)
theorem lenE:∀ k x,(encE k x).length = sizeE k:=by intro k x; cases k <;> rfl
theorem posE:∀ k,0 < sizeE k:=by intro k; cases k <;> decide
theorem yRTy {U:Ty A} {cs:List (D A)} {x:Int} (h:yxQy cs = some x):OkL U cs (yzly x):=by
 unfold yxQy at h
 split at h
 ·simp only [Option.bind_eq_some_iff] at h
  obtain ⟨b1,h1,hx⟩:=h
  obtain rfl:=Option.some.inj hx
  exact (.cons (gInt h1) .nil)
 ·cases h
theorem yQwy (x:Int):(yzly x).all D.plain = true:=rfl
theorem yQ5y {U:Ty A} {cs:List (D A)} {x:Bool} (h:yymy cs = some x):OkL U cs (yAAy x):=by
 unfold yymy at h
 split at h
 ·simp only [Option.bind_eq_some_iff] at h
  obtain ⟨b1,h1,hx⟩:=h
  obtain rfl:=Option.some.inj hx
  exact (.cons (gBool h1) .nil)
 ·cases h
theorem yQ1y (x:Bool):(yAAy x).all D.plain = true:=rfl
theorem yRCy {U:Ty A} {cs:List (D A)} {x:List UInt8} (h:yASy cs = some x):OkL U cs (yzby x):=by
 unfold yASy at h
 split at h
 ·simp only [Option.bind_eq_some_iff] at h
  obtain ⟨b1,h1,hx⟩:=h
  obtain rfl:=Option.some.inj hx
  exact (.cons (gStr h1) .nil)
 ·cases h
theorem yQJy (x:List UInt8):(yzby x).all D.plain = true:=rfl
theorem yNHy {U:Ty A} {cs:List (D A)} {x:G_Stream} (h:yuZy cs = some x):OkL U cs (yCyy x):=by
 unfold yuZy at h
 split at h
 ·simp only [Option.bind_eq_some_iff] at h
  obtain ⟨b1,h1,b2,h2,hx⟩:=h
  obtain rfl:=Option.some.inj hx
  exact (.cons (gSl h1) (.cons (gInt h2) .nil))
 ·cases h
theorem yMQy {U:Ty A} {cs:List (D A)} {x:List G_Spot} (h:yvsy cs = some x):OkL U cs (yDNy x):=by
 unfold yvsy at h
 split at h
 ·simp only [Option.bind_eq_some_iff] at h
  obtain ⟨b1,h1,hx⟩:=h
  obtain rfl:=Option.some.inj hx
  exact (.cons (gSl h1) .nil)
 ·cases h
theorem yL0y {U:Ty A} {cs:List (D A)} {x:Int} (h:yt6y cs = some x):OkL U cs (yvoy x):=by
 unfold yt6y at h
 split at h
 ·simp only [Option.bind_eq_some_iff] at h
  obtain ⟨b1,h1,hx⟩:=h
  obtain rfl:=Option.some.inj hx
  exact (.cons (gInt h1) .nil)
 ·cases h
theorem yPay (x:Int):(yvoy x).all D.plain = true:=rfl
theorem yODy {U:Ty A} {cs:List (D A)} {x:G_Row} (h:yvay cs = some x):OkL U cs (ypMy x):=by
 unfold yvay at h
 split at h
 ·simp only [Option.bind_eq_some_iff] at h
  obtain ⟨b1,h1,b2,h2,hx⟩:=h
  obtain rfl:=Option.some.inj hx
  exact (.cons (gInt h1) (.cons (gInt h2) .nil))
 ·cases h
theorem yOHy (x:G_Row):(ypMy x).all D.plain = true:=rfl
theorem yQty {U:Ty A} {cs:List (D A)} {x:G_Spot} (h:yugy cs = some x):OkL U cs (yoNy x):=by
 unfold yugy at h
 split at h
 ·simp only [Option.bind_eq_some_iff] at h
  obtain ⟨b1,h1,b2,h2,b3,h3,b4,h4,hx⟩:=h
  obtain rfl:=Option.some.inj hx
  exact (.cons (gInt h1) (.cons (gInt h2) (.cons (gStr h3) (.cons (gStr h4) .nil))))
 ·cases h
theorem yNly (x:G_Spot):(yoNy x).all D.plain = true:=rfl
theorem yPXy {U:Ty A} {cs:List (D A)} {x:G_Window} (h:yuAy cs = some x):OkL U cs (yu3y x):=by
 unfold yuAy at h
 split at h
 ·simp only [Option.bind_eq_some_iff] at h
  obtain ⟨b1,h1,b2,h2,hx⟩:=h
  obtain rfl:=Option.some.inj hx
  exact (.cons (gInt h1) (.cons (gInt h2) .nil))
 ·cases h
theorem yLWy (x:G_Window):(yu3y x).all D.plain = true:=rfl
theorem yQcy {U:Ty A} {cs:List (D A)} {x:G_Segment} (h:yuHy cs = some x):OkL U cs (yDUy x):=by
 unfold yuHy at h
 split at h
 ·simp only [Option.bind_eq_some_iff] at h
  obtain ⟨b1,h1,b2,h2,b3,h3,b4,h4,b5,h5,b6,h6,hx⟩:=h
  obtain rfl:=Option.some.inj hx
  exact (.cons (gStr h1) (.cons (gInt h2) (.cons (gInt h3) (.cons (gSl h4) (.cons (gInt h5) (.cons (gInt h6) .nil))))))
 ·cases h
theorem yNcy {U:Ty A} {cs:List (D A)} {x:G_Busy} (h:yuSy cs = some x):OkL U cs (yu9y x):=by
 unfold yuSy at h
 split at h
 ·simp only [Option.bind_eq_some_iff] at h
  obtain ⟨b1,h1,b2,h2,b3,h3,b4,h4,b5,h5,hx⟩:=h
  obtain rfl:=Option.some.inj hx
  exact (.cons (gStr h1) (.cons (gInt h2) (.cons (gInt h3) (.cons (gInt h4) (.cons (gInt h5) .nil)))))
 ·cases h
theorem yOQy (x:G_Busy):(yu9y x).all D.plain = true:=rfl
theorem yMNy {U:Ty A} {cs:List (D A)} {x:G_Band} (h:yvhy cs = some x):OkL U cs (yuDy x):=by
 unfold yvhy at h
 split at h
 ·simp only [Option.bind_eq_some_iff] at h
  obtain ⟨b1,h1,b2,h2,b3,h3,hx⟩:=h
  obtain rfl:=Option.some.inj hx
  exact (.cons (gStr h1) (.cons (gInt h2) (.cons (gInt h3) .nil)))
 ·cases h
theorem yNoy (x:G_Band):(yuDy x).all D.plain = true:=rfl
theorem yN6y {U:Ty A} {cs:List (D A)} {x:G_Contact} (h:yuvy cs = some x):OkL U cs (ypgy x):=by
 unfold yuvy at h
 split at h
 ·simp only [Option.bind_eq_some_iff] at h
  obtain ⟨b1,h1,b2,h2,b3,h3,b4,h4,b5,h5,b6,h6,b7,h7,b8,h8,hx⟩:=h
  obtain rfl:=Option.some.inj hx
  exact (.cons (gInt h1) (.cons (gInt h2) (.cons (gStr h3) (.cons (gStr h4) (.cons (gInt h5) (.cons (gInt h6) (.cons (gStr h7) (.cons (gStr h8) .nil))))))))
 ·cases h
theorem yQby (x:G_Contact):(ypgy x).all D.plain = true:=rfl
theorem yQiy {U:Ty A} {cs:List (D A)} {x:G_Entrant} (h:yvxy cs = some x):OkL U cs (yuIy x):=by
 unfold yvxy at h
 split at h
 ·simp only [Option.bind_eq_some_iff] at h
  obtain ⟨b1,h1,b2,h2,b3,h3,b4,h4,hx⟩:=h
  obtain rfl:=Option.some.inj hx
  exact (.cons (gStr h1) (.cons (gStr h2) (.cons (gInt h3) (.cons (gStr h4) .nil))))
 ·cases h
theorem yP1y (x:G_Entrant):(yuIy x).all D.plain = true:=rfl
theorem yILy {U:Ty A} {cs:List (D A)} {x:G_Deed} (h:yqPy cs = some x):OkL U cs (yqLy x):=by
 unfold yqPy at h
 split at h
 ·simp only [Option.bind_eq_some_iff] at h
  obtain ⟨b1,h1,b2,h2,b3,h3,b4,h4,b5,h5,b6,h6,b7,h7,b8,h8,b9,h9,b10,h10,b11,h11,b12,h12,b13,h13,b14,h14,b15,h15,hx⟩:=h
  obtain rfl:=Option.some.inj hx
  exact (.cons (gStr h1) (.cons (gInt h2) (.cons (gInt h3) (.cons (gInt h4) (.cons (gInt h5) (.cons (gInt h6) (.cons (gStr h7) (.cons (gStr h8) (.cons (gInt h9) (.cons (gInt h10) (.cons (gStr h11) (.cons (gStr h12) (.cons (gStr h13) (.cons (gStr h14) (.cons (gInt h15) .nil)))))))))))))))
 ·cases h
theorem yJAy (x:G_Deed):(yqLy x).all D.plain = true:=rfl
theorem yI1y {U:Ty A} {cs:List (D A)} {x:G_band_onBand} (h:yq9y cs = some x):OkL U cs (yq8y x):=by
 unfold yq9y at h
 split at h
 ·simp only [Option.bind_eq_some_iff] at h
  obtain ⟨b1,h1,b2,h2,hx⟩:=h
  obtain rfl:=Option.some.inj hx
  exact (.cons (gStr h1) (.cons (gInt h2) .nil))
 ·cases h
theorem yJKy (x:G_band_onBand):(yq8y x).all D.plain = true:=rfl
theorem yLiy {U:Ty A} {cs:List (D A)} {x:G_Place} (h:yqQy cs = some x):OkL U cs (ymLy x):=by
 unfold yqQy at h
 split at h
 ·simp only [Option.bind_eq_some_iff] at h
  obtain ⟨b1,h1,b2,h2,b3,h3,hx⟩:=h
  obtain rfl:=Option.some.inj hx
  exact (.cons (gInt h1) (.cons (gInt h2) (.cons (gStr h3) .nil)))
 ·cases h
theorem yKgy (x:G_Place):(ymLy x).all D.plain = true:=rfl
theorem yJfy {U:Ty A} {cs:List (D A)} {x:G_Parts} (h:yq4y cs = some x):OkL U cs (yq2y x):=by
 unfold yq4y at h
 split at h
 ·simp only [Option.bind_eq_some_iff] at h
  obtain ⟨b1,h1,b2,h2,b3,h3,b4,h4,b5,h5,hx⟩:=h
  obtain rfl:=Option.some.inj hx
  exact (.cons (gStr h1) (.cons (gStr h2) (.cons (gStr h3) (.cons (gInt h4) (.cons (gStr h5) .nil)))))
 ·cases h
theorem yLdy (x:G_Parts):(yq2y x).all D.plain = true:=rfl
theorem yJry {U:Ty A} {cs:List (D A)} {x:G_log_worked} (h:yrgy cs = some x):OkL U cs (yqYy x):=by
 unfold yrgy at h
 split at h
 ·simp only [Option.bind_eq_some_iff] at h
  obtain ⟨b1,h1,b2,h2,b3,h3,hx⟩:=h
  obtain rfl:=Option.some.inj hx
  exact (.cons (gStr h1) (.cons (gStr h2) (.cons (gInt h3) .nil)))
 ·cases h
theorem yKMy (x:G_log_worked):(yqYy x).all D.plain = true:=rfl
theorem yLky {U:Ty A} {cs:List (D A)} {x:G_net_own} (h:yriy cs = some x):OkL U cs (yq3y x):=by
 unfold yriy at h
 split at h
 ·simp only [Option.bind_eq_some_iff] at h
  obtain ⟨b1,h1,b2,h2,hx⟩:=h
  obtain rfl:=Option.some.inj hx
  exact (.cons (gStr h1) (.cons (gInt h2) .nil))
 ·cases h
theorem yJdy (x:G_net_own):(yq3y x).all D.plain = true:=rfl
def TD:Ty A:=T.day
theorem decOk {U:Ty A}:∀ k cs x,decE k cs = some x→OkL U cs (encE k x):=by
 intro k cs x h
 cases k
 case e3=>exact yRTy h
 case e4=>exact yQ5y h
 case e9=>exact yRCy h
 case e25=>exact yNHy h
 case e30=>exact yMQy h
 case e35=>exact yL0y h
 case e40=>exact yODy h
 case e45=>exact yQty h
 case e50=>exact yPXy h
 case e52=>exact yQcy h
 case e58=>exact yNcy h
 case e62=>exact yMNy h
 case e89=>exact yN6y h
 case e99=>exact yQiy h
 case e104=>exact yILy h
 case e131=>exact yI1y h
 case e141=>exact yLiy h
 case e155=>exact yJfy h
 case e186=>exact yJry h
 case e223=>exact yLky h
 case no=>cases h
theorem tyOkD (P:Program):TyOk P TD:=⟨fun e x=>lenE (el e) x,fun e=>posE (el e),fun e cs x h=>by
 obtain ⟨h1,h2⟩:=decOk (U:=TD) (el e) cs x h
 exact ⟨h1.trans (lenE (el e) x),h2⟩⟩
theorem tyOk (P:Program):TyOk P T:=⟨fun e x=>lenE (el e) x,fun e=>posE (el e),fun e cs x h=>by
 obtain ⟨h1,h2⟩:=decOk (el e) cs x h
 exact ⟨h1.trans (lenE (el e) x),h2⟩⟩
def flatE:El→Bool
 | .e3=>true
 | .e4=>true
 | .e9=>true
 | .e25=>false
 | .e30=>false
 | .e35=>true
 | .e40=>true
 | .e45=>true
 | .e50=>true
 | .e52=>false
 | .e58=>true
 | .e62=>true
 | .e89=>true
 | .e99=>true
 | .e104=>true
 | .e131=>true
 | .e141=>true
 | .e155=>true
 | .e186=>true
 | .e223=>true
 | .no=>false
def flatT (e:Nat):Bool:=flatE (el e)
theorem yCAy:∀ k,flatE k = true→∀ x d,d ∈ encE k x→D.plain d = true:=by
 intro k h x d hd
 cases k
 case e3=>exact List.all_eq_true.1 (yQwy x) d hd
 case e4=>exact List.all_eq_true.1 (yQ1y x) d hd
 case e9=>exact List.all_eq_true.1 (yQJy x) d hd
 case e25=>cases h
 case e30=>cases h
 case e35=>exact List.all_eq_true.1 (yPay x) d hd
 case e40=>exact List.all_eq_true.1 (yOHy x) d hd
 case e45=>exact List.all_eq_true.1 (yNly x) d hd
 case e50=>exact List.all_eq_true.1 (yLWy x) d hd
 case e52=>cases h
 case e58=>exact List.all_eq_true.1 (yOQy x) d hd
 case e62=>exact List.all_eq_true.1 (yNoy x) d hd
 case e89=>exact List.all_eq_true.1 (yQby x) d hd
 case e99=>exact List.all_eq_true.1 (yP1y x) d hd
 case e104=>exact List.all_eq_true.1 (yJAy x) d hd
 case e131=>exact List.all_eq_true.1 (yJKy x) d hd
 case e141=>exact List.all_eq_true.1 (yKgy x) d hd
 case e155=>exact List.all_eq_true.1 (yLdy x) d hd
 case e186=>exact List.all_eq_true.1 (yKMy x) d hd
 case e223=>exact List.all_eq_true.1 (yJdy x) d hd
 case no=>cases h
def ybdy (x y:G_Spot):Bool:=(x.f_At == y.f_At && (x.f_Hertz == y.f_Hertz && (x.f_Call == y.f_Call && (x.f_By == y.f_By && true))))
def yj3y (x y:G_Window):Bool:=(x.f_From == y.f_From && (x.f_To == y.f_To && true))
def yhAy (x y:G_Busy):Bool:=(x.f_Who == y.f_Who && (x.f_Hertz == y.f_Hertz && (x.f_Width == y.f_Width && ((x.f_Time.f_From == y.f_Time.f_From && (x.f_Time.f_To == y.f_Time.f_To && true)) && true))))
def yhPy (x y:G_Band):Bool:=(x.f_Key == y.f_Key && (x.f_Low == y.f_Low && (x.f_High == y.f_High && true)))
def yiVy (x y:G_Contact):Bool:=(x.f_At == y.f_At && (x.f_Mode == y.f_Mode && (x.f_Band == y.f_Band && (x.f_Call == y.f_Call && (x.f_Sent == y.f_Sent && (x.f_Heard == y.f_Heard && (x.f_Gave == y.f_Gave && (x.f_Got == y.f_Got && true))))))))
def yb5y (x:Int) (m:List (Int×Int)):Option Int:=getM T 3 3 x m
def yixy (x:Int) (m:List (Int×Int)):List (Int×Int):=delM T 3 3 x m
def ydEy (x:Int) (y:Int) (m:List (Int×Int)):List (Int×Int):=setM T 3 3 x y m
def yu1y (x y:Int):Bool:=(x == y && true)
theorem mget_int_int_nil (x:Int):yb5y x [] = none:=by kernel_rfl
theorem mget_int_int_cons (x:Int) (p:Int×Int) (m:List (Int×Int)):yb5y x (p :: m) = bif yu1y x p.1 then some p.2 else yb5y x m:=by kernel_rfl
theorem mdel_int_int_nil (x:Int):yixy x [] = []:=by kernel_rfl
theorem mdel_int_int_cons (x:Int) (p:Int×Int) (m:List (Int×Int)):yixy x (p :: m) = bif yu1y x p.1 then m else p :: yixy x m:=by kernel_rfl
theorem mset_int_int_nil (x:Int) (y:Int):ydEy x y [] = [(x,y)]:=by kernel_rfl
theorem mset_int_int_cons (x:Int) (y:Int) (p:Int×Int) (m:List (Int×Int)):ydEy x y (p :: m) = bif yu1y x p.1 then (x,y) :: m else p :: ydEy x y m:=by kernel_rfl
def yaKy (x:G_Contact) (m:List (G_Contact×G_Deed)):Option G_Deed:=getM T 89 104 x m
def yd4y (x:G_Contact) (m:List (G_Contact×G_Deed)):List (G_Contact×G_Deed):=delM T 89 104 x m
def ya5y (x:G_Contact) (y:G_Deed) (m:List (G_Contact×G_Deed)):List (G_Contact×G_Deed):=setM T 89 104 x y m
def yjRy (x y:G_Contact):Bool:=(x.f_At == y.f_At && (x.f_Mode == y.f_Mode && (x.f_Band == y.f_Band && (x.f_Call == y.f_Call && (x.f_Sent == y.f_Sent && (x.f_Heard == y.f_Heard && (x.f_Gave == y.f_Gave && (x.f_Got == y.f_Got && true))))))))
theorem mget_Contact_Deed_nil (x:G_Contact):yaKy x [] = none:=by kernel_rfl
theorem mget_Contact_Deed_cons (x:G_Contact) (p:G_Contact×G_Deed) (m:List (G_Contact×G_Deed)):yaKy x (p :: m) = bif yjRy x p.1 then some p.2 else yaKy x m:=by kernel_rfl
theorem mdel_Contact_Deed_nil (x:G_Contact):yd4y x [] = []:=by kernel_rfl
theorem mdel_Contact_Deed_cons (x:G_Contact) (p:G_Contact×G_Deed) (m:List (G_Contact×G_Deed)):yd4y x (p :: m) = bif yjRy x p.1 then m else p :: yd4y x m:=by kernel_rfl
theorem mset_Contact_Deed_nil (x:G_Contact) (y:G_Deed):ya5y x y [] = [(x,y)]:=by kernel_rfl
theorem mset_Contact_Deed_cons (x:G_Contact) (y:G_Deed) (p:G_Contact×G_Deed) (m:List (G_Contact×G_Deed)):ya5y x y (p :: m) = bif yjRy x p.1 then (x,y) :: m else p :: ya5y x y m:=by kernel_rfl
def yamy (x:G_band_onBand) (m:List (G_band_onBand×Bool)):Option Bool:=getM T 131 4 x m
def ycHy (x:G_band_onBand) (m:List (G_band_onBand×Bool)):List (G_band_onBand×Bool):=delM T 131 4 x m
def yaSy (x:G_band_onBand) (y:Bool) (m:List (G_band_onBand×Bool)):List (G_band_onBand×Bool):=setM T 131 4 x y m
def ya8y (x y:G_band_onBand):Bool:=(x.f_call == y.f_call && (x.f_band == y.f_band && true))
theorem mget_band_onBand_bool_nil (x:G_band_onBand):yamy x [] = none:=by kernel_rfl
theorem mget_band_onBand_bool_cons (x:G_band_onBand) (p:G_band_onBand×Bool) (m:List (G_band_onBand×Bool)):yamy x (p :: m) = bif ya8y x p.1 then some p.2 else yamy x m:=by kernel_rfl
theorem mdel_band_onBand_bool_nil (x:G_band_onBand):ycHy x [] = []:=by kernel_rfl
theorem mdel_band_onBand_bool_cons (x:G_band_onBand) (p:G_band_onBand×Bool) (m:List (G_band_onBand×Bool)):ycHy x (p :: m) = bif ya8y x p.1 then m else p :: ycHy x m:=by kernel_rfl
theorem mset_band_onBand_bool_nil (x:G_band_onBand) (y:Bool):yaSy x y [] = [(x,y)]:=by kernel_rfl
theorem mset_band_onBand_bool_cons (x:G_band_onBand) (y:Bool) (p:G_band_onBand×Bool) (m:List (G_band_onBand×Bool)):yaSy x y (p :: m) = bif ya8y x p.1 then (x,y) :: m else p :: yaSy x y m:=by kernel_rfl
def ybXy (x:G_log_worked) (m:List (G_log_worked×Bool)):Option Bool:=getM T 186 4 x m
def ycTy (x:G_log_worked) (m:List (G_log_worked×Bool)):List (G_log_worked×Bool):=delM T 186 4 x m
def ybCy (x:G_log_worked) (y:Bool) (m:List (G_log_worked×Bool)):List (G_log_worked×Bool):=setM T 186 4 x y m
def ygIy (x y:G_log_worked):Bool:=(x.f_base == y.f_base && (x.f_band == y.f_band && (x.f_mode == y.f_mode && true)))
theorem mget_log_worked_bool_nil (x:G_log_worked):ybXy x [] = none:=by kernel_rfl
theorem mget_log_worked_bool_cons (x:G_log_worked) (p:G_log_worked×Bool) (m:List (G_log_worked×Bool)):ybXy x (p :: m) = bif ygIy x p.1 then some p.2 else ybXy x m:=by kernel_rfl
theorem mdel_log_worked_bool_nil (x:G_log_worked):ycTy x [] = []:=by kernel_rfl
theorem mdel_log_worked_bool_cons (x:G_log_worked) (p:G_log_worked×Bool) (m:List (G_log_worked×Bool)):ycTy x (p :: m) = bif ygIy x p.1 then m else p :: ycTy x m:=by kernel_rfl
theorem mset_log_worked_bool_nil (x:G_log_worked) (y:Bool):ybCy x y [] = [(x,y)]:=by kernel_rfl
theorem mset_log_worked_bool_cons (x:G_log_worked) (y:Bool) (p:G_log_worked×Bool) (m:List (G_log_worked×Bool)):ybCy x y (p :: m) = bif ygIy x p.1 then (x,y) :: m else p :: ybCy x y m:=by kernel_rfl
def ybVy (x:G_net_own) (m:List (G_net_own×Bool)):Option Bool:=getM T 223 4 x m
def yaRy (x:G_net_own) (m:List (G_net_own×Bool)):List (G_net_own×Bool):=delM T 223 4 x m
def ya4y (x:G_net_own) (y:Bool) (m:List (G_net_own×Bool)):List (G_net_own×Bool):=setM T 223 4 x y m
def yjXy (x y:G_net_own):Bool:=(x.f_site == y.f_site && (x.f_no == y.f_no && true))
theorem mget_net_own_bool_nil (x:G_net_own):ybVy x [] = none:=by kernel_rfl
theorem mget_net_own_bool_cons (x:G_net_own) (p:G_net_own×Bool) (m:List (G_net_own×Bool)):ybVy x (p :: m) = bif yjXy x p.1 then some p.2 else ybVy x m:=by kernel_rfl
theorem mdel_net_own_bool_nil (x:G_net_own):yaRy x [] = []:=by kernel_rfl
theorem mdel_net_own_bool_cons (x:G_net_own) (p:G_net_own×Bool) (m:List (G_net_own×Bool)):yaRy x (p :: m) = bif yjXy x p.1 then m else p :: yaRy x m:=by kernel_rfl
theorem mset_net_own_bool_nil (x:G_net_own) (y:Bool):ya4y x y [] = [(x,y)]:=by kernel_rfl
theorem mset_net_own_bool_cons (x:G_net_own) (y:Bool) (p:G_net_own×Bool) (m:List (G_net_own×Bool)):ya4y x y (p :: m) = bif yjXy x p.1 then (x,y) :: m else p :: ya4y x y m:=by kernel_rfl
theorem ko_3x (x p:Int):eqT Tryz.prog 64 3 (yaLy T 3 x) (yaLy T 3 p) = some ((x:Int) == (p:Int)):=by kernel_rfl
theorem ko_3y (x p:Int):some (eqDs (T.enc 3 x) (T.enc 3 p)) = some ((x == p) && true):=by kernel_rfl
theorem ko_3z (x p:Int):eqT Tryz.prog 64 3 (yaLy T 3 x) (yaLy T 3 p) = some (eqDs (T.enc 3 x) (T.enc 3 p)):=(ko_3x x p).trans (((congrArg some (Bool.and_true (x == p))).symm).trans (ko_3y x p).symm)
theorem ko_3:KeyOk Tryz.prog T 3:=fun x p=>ko_3z x p
theorem kd_3:∃ kd,Tryz.prog.underlying 3 = some kd:=Option.isSome_iff_exists.1 (by kernel_rfl)
theorem yRGy (x p:G_Contact):eqT Tryz.prog 64 89 (yaLy T 89 x) (yaLy T 89 p) = some (eqDs (T.enc 89 x) (T.enc 89 p)):=by kernel_rfl
theorem ko_89:KeyOk Tryz.prog T 89:=by
 intro x p
 exact yRGy x p
theorem kd_89:∃ kd,Tryz.prog.underlying 89 = some kd:=Option.isSome_iff_exists.1 (by kernel_rfl)
theorem yOdy (x p:G_band_onBand):eqT Tryz.prog 64 131 (yaLy T 131 x) (yaLy T 131 p) = some (eqDs (T.enc 131 x) (T.enc 131 p)):=by kernel_rfl
theorem yRZy:KeyOk Tryz.prog T 131:=by
 intro x p
 exact yOdy x p
theorem yQyy:∃ kd,Tryz.prog.underlying 131 = some kd:=Option.isSome_iff_exists.1 (by kernel_rfl)
theorem yLXy (x p:G_log_worked):eqT Tryz.prog 64 186 (yaLy T 186 x) (yaLy T 186 p) = some (eqDs (T.enc 186 x) (T.enc 186 p)):=by kernel_rfl
theorem yRhy:KeyOk Tryz.prog T 186:=by
 intro x p
 exact yLXy x p
theorem yQLy:∃ kd,Tryz.prog.underlying 186 = some kd:=Option.isSome_iff_exists.1 (by kernel_rfl)
theorem yNUy (x p:G_net_own):eqT Tryz.prog 64 223 (yaLy T 223 x) (yaLy T 223 p) = some (eqDs (T.enc 223 x) (T.enc 223 p)):=by kernel_rfl
theorem yRly:KeyOk Tryz.prog T 223:=by
 intro x p
 exact yNUy x p
theorem yRFy:∃ kd,Tryz.prog.underlying 223 = some kd:=Option.isSome_iff_exists.1 (by kernel_rfl)
def keyT (k:Nat):Bool:=k == 3 || k == 89 || k == 131 || k == 186 || k == 223
theorem yHuy:∀ k,keyT k = true→KeyOk Tryz.prog T k∧∃ kd,Tryz.prog.underlying k = some kd:=by
 intro k h
 simp only [keyT,Bool.or_eq_true,beq_iff_eq] at h
 rcases h with (((rfl | rfl) | rfl) | rfl) | rfl
 ·exact ⟨ko_3,kd_3⟩
 ·exact ⟨ko_89,kd_89⟩
 ·exact ⟨yRZy,yQyy⟩
 ·exact ⟨yRhy,yQLy⟩
 ·exact ⟨yRly,yRFy⟩
theorem yRsy:yejy T flatT:=fun e h x d hd=>yCAy (el e) h x d hd
def spT:List (Nat×Sp A):=[]
theorem spAll:SpAll Tryz.prog T spT:=.nil
theorem std:Std Tryz.prog T keyT flatT (fun f=>spT.lookup f):=⟨tyOk Tryz.prog,yRsy,yHuy,spAll.ok,by kernel_rfl⟩
abbrev Ok (f:Nat) (S:Spec A):Prop:=OkF Tryz.prog T f S
theorem stdD:Std Tryz.prog TD keyT flatT (fun _=>none):=⟨tyOkD Tryz.prog,fun e h x d hd=>yCAy (el e) h x d hd,yHuy,fun _ _ h=>(by cases h),by kernel_rfl⟩
abbrev OkD (f:Nat) (S:Spec A):Prop:=OkF Tryz.prog TD f S
noncomputable def mkE (C:List (Nat×Spec A)) (tg:List (Nat×List Nat)) (lh xh:List (Nat×Hint)) (cl:List (Nat×Piece A)) (sh xs:List (Nat×Hint)) (cs:List (Nat×Piece A)) (md:List (Nat×Nat)) (pin:List Nat):Env A :=
 { P:=Tryz.prog,T:=T,C:=fun f=>C.lookup f,tg:=fun d=>(tg.lookup d).getD [],seqH:=fun i=>sh.lookup i,loopH:=fun i=>lh.lookup i,exitH:=fun i=>xh.lookup i,exitS:=fun i=>xs.lookup i,cutS:=fun i=>cs.lookup i,cutL:=fun i=>cl.lookup i,mode:=fun f i=>md.contains (f,i),sp:=fun f=>spT.lookup f,keyed:=keyT,flat:=flatT,pin:=pin }
noncomputable def mkED (C:List (Nat×Spec A)) (tg:List (Nat×List Nat)) (lh xh:List (Nat×Hint)) (cl:List (Nat×Piece A)) (sh xs:List (Nat×Hint)) (cs:List (Nat×Piece A)) (md:List (Nat×Nat)) (pin:List Nat):Env A :=
 { P:=Tryz.prog,T:=TD,C:=fun f=>C.lookup f,tg:=fun d=>(tg.lookup d).getD [],seqH:=fun i=>sh.lookup i,loopH:=fun i=>lh.lookup i,exitH:=fun i=>xh.lookup i,exitS:=fun i=>xs.lookup i,cutS:=fun i=>cs.lookup i,cutL:=fun i=>cl.lookup i,mode:=fun f i=>md.contains (f,i),keyed:=keyT,flat:=flatT,pin:=pin }
end Go.Am
