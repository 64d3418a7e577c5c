/- The functions of the program as Lean functions, each shown to be what the code computes, part 0. No condition: lemmas for the claim. -/
import Derived.Test.YtfmhkakoakcpgaaGreatDoorAmPrint
import Derived.Test.YtfmhkakoakcpgaaGreatDoorAmIn
import Derived.Test.YtfmhkakoakcpgaaGreatDoorFSh
import Derived.Test.YtfmhkakoakcpgaaGreatDoorAmExt2
import Derived.Test.YtfmhkakoakcpgaaGreatDoorProg
import Derived.KernelRfl
set_option linter.unusedVariables false
set_option maxRecDepth 100000
namespace Go.Am
open Go Go.Proofs
structure G_Stream where
 f_L:List Int
 f_at:Int
 deriving DecidableEq
structure G_Contact where
 f_At:Int
 f_Mode:Int
 f_Band:List UInt8
 f_Call:List UInt8
 f_Sent:Int
 f_Heard:Int
 f_Gave:List UInt8
 f_Got:List UInt8
 deriving DecidableEq
structure G_Deed where
 f_Site:List UInt8
 f_No:Int
 f_At:Int
 f_Kind:Int
 f_Contact:G_Contact
 f_Band:List UInt8
 f_Of:List UInt8
 f_Other:Int
 deriving DecidableEq
structure G_Desk where
 f_Site:List UInt8
 f_Band:List UInt8
 f_Contacts:Int
 deriving DecidableEq
structure G_net_own where
 f_site:List UInt8
 f_no:Int
 deriving DecidableEq
structure G_Window where
 f_From:Int
 f_To:Int
 deriving DecidableEq
structure G_Segment where
 f_Class:List UInt8
 f_Low:Int
 f_High:Int
 f_Modes:List Int
 f_Time:G_Window
 deriving DecidableEq
structure G_Entrant where
 f_Call:List UInt8
 f_Category:List UInt8
 f_Points:Int
 f_Locator:List UInt8
 deriving DecidableEq
structure G_log_worked where
 f_base:List UInt8
 f_band:List UInt8
 f_mode:Int
 deriving DecidableEq
structure G_Row where
 f_From:Int
 f_To:Int
 deriving DecidableEq
structure G_Place where
 f_Rank:Int
 f_Points:Int
 f_Key:List UInt8
 deriving DecidableEq
structure G_Parts where
 f_Base:List UInt8
 f_Prefix:List UInt8
 f_Suffix:List UInt8
 f_Kind:Int
 f_Added:List UInt8
 deriving DecidableEq
inductive El where
 | e3 | e4 | e9 | e25 | e26 | e29 | e30 | e39 | e41 | e53 | e70 | e87 | e89 | e95 | e123 | e130 | e138 | e163 | no
def el:Nat→El
 | 3=>.e3
 | 4=>.e4
 | 9=>.e9
 | 25=>.e25
 | 26=>.e26
 | 29=>.e29
 | 30=>.e30
 | 39=>.e39
 | 41=>.e41
 | 53=>.e53
 | 70=>.e70
 | 87=>.e87
 | 89=>.e89
 | 95=>.e95
 | 123=>.e123
 | 130=>.e130
 | 138=>.e138
 | 163=>.e163
 | _=>.no
def AE:El→Type
 | .e3=>Int
 | .e4=>Bool
 | .e9=>List UInt8
 | .e25=>G_Stream
 | .e26=>List G_Deed
 | .e29=>List G_Contact
 | .e30=>Int
 | .e39=>G_Contact
 | .e41=>G_Deed
 | .e53=>G_Desk
 | .e70=>G_net_own
 | .e87=>G_Window
 | .e89=>G_Segment
 | .e95=>G_Entrant
 | .e123=>G_log_worked
 | .e130=>G_Row
 | .e138=>G_Place
 | .e163=>G_Parts
 | .no=>Unit
abbrev A (e:Nat):Type:=AE (el e)
def sizeE:El→Nat
 | .e3=>1
 | .e4=>1
 | .e9=>1
 | .e25=>2
 | .e26=>1
 | .e29=>1
 | .e30=>1
 | .e39=>8
 | .e41=>15
 | .e53=>3
 | .e70=>2
 | .e87=>2
 | .e89=>6
 | .e95=>4
 | .e123=>3
 | .e130=>2
 | .e138=>3
 | .e163=>5
 | .no=>1
def yv0y (x:Int):List (D A):=[.int .i64 x]
def ytQy (cs:List (D A)):Option (Int):=match cs with | [c0]=>(dInt .i64 c0).bind fun b1=>some b1 | _=>none
def yvhy (x:Bool):List (D A):=[.bool x]
def yvly (cs:List (D A)):Option (Bool):=match cs with | [c0]=>(dBool c0).bind fun b1=>some b1 | _=>none
def ytFy (x:List UInt8):List (D A):=[.str x]
def yvSy (cs:List (D A)):Option (List UInt8):=match cs with | [c0]=>(dStr c0).bind fun b1=>some b1 | _=>none
def yy6y (x:G_Stream):List (D A):=[.sl 3 x.f_L,.int .i64 x.f_at]
def yrly (cs:List (D A)):Option (G_Stream):=match cs with | [c0,c1]=>(dSl 3 c0).bind fun b1=>(dInt .i64 c1).bind fun b2=>some ⟨b1,b2⟩ | _=>none
def yxVy (x:List G_Deed):List (D A):=[.sl 41 x]
def yrJy (cs:List (D A)):Option (List G_Deed):=match cs with | [c0]=>(dSl 41 c0).bind fun b1=>some b1 | _=>none
def yxUy (x:List G_Contact):List (D A):=[.sl 39 x]
def yr8y (cs:List (D A)):Option (List G_Contact):=match cs with | [c0]=>(dSl 39 c0).bind fun b1=>some b1 | _=>none
def yrMy (x:Int):List (D A):=[.int .i64 x]
def yr4y (cs:List (D A)):Option (Int):=match cs with | [c0]=>(dInt .i64 c0).bind fun b1=>some b1 | _=>none
def ynBy (x:G_Contact):List (D A):=[.int .i64 x.f_At,.int .i64 x.f_Mode,.str x.f_Band,.str x.f_Call,.int .i64 x.f_Sent,.int .i64 x.f_Heard,.str x.f_Gave,.str x.f_Got]
def yrHy (cs:List (D A)):Option (G_Contact):=match cs with | [c0,c1,c2,c3,c4,c5,c6,c7]=>(dInt .i64 c0).bind fun b1=>(dInt .i64 c1).bind fun b2=>(dStr c2).bind fun b3=>(dStr c3).bind fun b4=>(dInt .i64 c4).bind fun b5=>(dInt .i64 c5).bind fun b6=>(dStr c6).bind fun b7=>(dStr c7).bind fun b8=>some ⟨b1,b2,b3,b4,b5,b6,b7,b8⟩ | _=>none
def ym6y (x:G_Deed):List (D A):=[.str x.f_Site,.int .i64 x.f_No,.int .i64 x.f_At,.int .i64 x.f_Kind,.int .i64 x.f_Contact.f_At,.int .i64 x.f_Contact.f_Mode,.str x.f_Contact.f_Band,.str x.f_Contact.f_Call,.int .i64 x.f_Contact.f_Sent,.int .i64 x.f_Contact.f_Heard,.str x.f_Contact.f_Gave,.str x.f_Contact.f_Got,.str x.f_Band,.str x.f_Of,.int .i64 x.f_Other]
def yrZy (cs:List (D A)):Option (G_Deed):=match cs with | [c0,c1,c2,c3,c4,c5,c6,c7,c8,c9,c10,c11,c12,c13,c14]=>(dStr c0).bind fun b1=>(dInt .i64 c1).bind fun b2=>(dInt .i64 c2).bind fun b3=>(dInt .i64 c3).bind fun b4=>(dInt .i64 c4).bind fun b5=>(dInt .i64 c5).bind fun b6=>(dStr c6).bind fun b7=>(dStr c7).bind fun b8=>(dInt .i64 c8).bind fun b9=>(dInt .i64 c9).bind fun b10=>(dStr c10).bind fun b11=>(dStr c11).bind fun b12=>(dStr c12).bind fun b13=>(dStr c13).bind fun b14=>(dInt .i64 c14).bind fun b15=>some ⟨b1,b2,b3,b4,⟨b5,b6,b7,b8,b9,b10,b11,b12⟩,b13,b14,b15⟩ | _=>none
def yr6y (x:G_Desk):List (D A):=[.str x.f_Site,.str x.f_Band,.int .i64 x.f_Contacts]
def yrTy (cs:List (D A)):Option (G_Desk):=match cs with | [c0,c1,c2]=>(dStr c0).bind fun b1=>(dStr c1).bind fun b2=>(dInt .i64 c2).bind fun b3=>some ⟨b1,b2,b3⟩ | _=>none
def yrUy (x:G_net_own):List (D A):=[.str x.f_site,.int .i64 x.f_no]
def yr0y (cs:List (D A)):Option (G_net_own):=match cs with | [c0,c1]=>(dStr c0).bind fun b1=>(dInt .i64 c1).bind fun b2=>some ⟨b1,b2⟩ | _=>none
def yrDy (x:G_Window):List (D A):=[.int .i64 x.f_From,.int .i64 x.f_To]
def yrNy (cs:List (D A)):Option (G_Window):=match cs with | [c0,c1]=>(dInt .i64 c0).bind fun b1=>(dInt .i64 c1).bind fun b2=>some ⟨b1,b2⟩ | _=>none
def yx8y (x:G_Segment):List (D A):=[.str x.f_Class,.int .i64 x.f_Low,.int .i64 x.f_High,.sl 3 x.f_Modes,.int .i64 x.f_Time.f_From,.int .i64 x.f_Time.f_To]
def yruy (cs:List (D A)):Option (G_Segment):=match cs with | [c0,c1,c2,c3,c4,c5]=>(dStr c0).bind fun b1=>(dInt .i64 c1).bind fun b2=>(dInt .i64 c2).bind fun b3=>(dSl 3 c3).bind fun b4=>(dInt .i64 c4).bind fun b5=>(dInt .i64 c5).bind fun b6=>some ⟨b1,b2,b3,b4,⟨b5,b6⟩⟩ | _=>none
def yrOy (x:G_Entrant):List (D A):=[.str x.f_Call,.str x.f_Category,.int .i64 x.f_Points,.str x.f_Locator]
def yrky (cs:List (D A)):Option (G_Entrant):=match cs with | [c0,c1,c2,c3]=>(dStr c0).bind fun b1=>(dStr c1).bind fun b2=>(dInt .i64 c2).bind fun b3=>(dStr c3).bind fun b4=>some ⟨b1,b2,b3,b4⟩ | _=>none
def yoYy (x:G_log_worked):List (D A):=[.str x.f_base,.str x.f_band,.int .i64 x.f_mode]
def yo4y (cs:List (D A)):Option (G_log_worked):=match cs with | [c0,c1,c2]=>(dStr c0).bind fun b1=>(dStr c1).bind fun b2=>(dInt .i64 c2).bind fun b3=>some ⟨b1,b2,b3⟩ | _=>none
def ykKy (x:G_Row):List (D A):=[.int .i64 x.f_From,.int .i64 x.f_To]
def yoUy (cs:List (D A)):Option (G_Row):=match cs with | [c0,c1]=>(dInt .i64 c0).bind fun b1=>(dInt .i64 c1).bind fun b2=>some ⟨b1,b2⟩ | _=>none
def yk6y (x:G_Place):List (D A):=[.int .i64 x.f_Rank,.int .i64 x.f_Points,.str x.f_Key]
def yoRy (cs:List (D A)):Option (G_Place):=match cs with | [c0,c1,c2]=>(dInt .i64 c0).bind fun b1=>(dInt .i64 c1).bind fun b2=>(dStr c2).bind fun b3=>some ⟨b1,b2,b3⟩ | _=>none
def yoSy (x:G_Parts):List (D A):=[.str x.f_Base,.str x.f_Prefix,.str x.f_Suffix,.int .i64 x.f_Kind,.str x.f_Added]
def yo1y (cs:List (D A)):Option (G_Parts):=match cs with | [c0,c1,c2,c3,c4]=>(dStr c0).bind fun b1=>(dStr c1).bind fun b2=>(dStr c2).bind fun b3=>(dInt .i64 c3).bind fun b4=>(dStr c4).bind fun b5=>some ⟨b1,b2,b3,b4,b5⟩ | _=>none
def encE:(k:El)→AE k→List (D A)
 | .e3,x=>yv0y x
 | .e4,x=>yvhy x
 | .e9,x=>ytFy x
 | .e25,x=>yy6y x
 | .e26,x=>yxVy x
 | .e29,x=>yxUy x
 | .e30,x=>yrMy x
 | .e39,x=>ynBy x
 | .e41,x=>ym6y x
 | .e53,x=>yr6y x
 | .e70,x=>yrUy x
 | .e87,x=>yrDy x
 | .e89,x=>yx8y x
 | .e95,x=>yrOy x
 | .e123,x=>yoYy x
 | .e130,x=>ykKy x
 | .e138,x=>yk6y x
 | .e163,x=>yoSy x
 | .no,_=>[.nilif]
def decE:(k:El)→List (D A)→Option (AE k)
 | .e3,cs=>ytQy cs
 | .e4,cs=>yvly cs
 | .e9,cs=>yvSy cs
 | .e25,cs=>yrly cs
 | .e26,cs=>yrJy cs
 | .e29,cs=>yr8y cs
 | .e30,cs=>yr4y cs
 | .e39,cs=>yrHy cs
 | .e41,cs=>yrZy cs
 | .e53,cs=>yrTy cs
 | .e70,cs=>yr0y cs
 | .e87,cs=>yrNy cs
 | .e89,cs=>yruy cs
 | .e95,cs=>yrky cs
 | .e123,cs=>yo4y cs
 | .e130,cs=>yoUy cs
 | .e138,cs=>yoRy cs
 | .e163,cs=>yo1y cs
 | .no,_=>none
def aggE:El→Bool
 | .e3=>false
 | .e4=>false
 | .e9=>false
 | .e25=>true
 | .e26=>false
 | .e29=>false
 | .e30=>false
 | .e39=>true
 | .e41=>true
 | .e53=>true
 | .e70=>true
 | .e87=>true
 | .e89=>true
 | .e95=>true
 | .e123=>true
 | .e130=>true
 | .e138=>true
 | .e163=>true
 | .no=>false
def T:Ty A where
 size:=fun e=>sizeE (el e)
 enc:=fun e x=>encE (el e) x
 dec:=fun e cs=>decE (el e) cs
 agg:=fun e=>aggE (el e)
theorem lenE:∀ k x,(encE k x).length = sizeE k:=by intro k x; cases k <;> rfl
theorem posE:∀ k,0 < sizeE k:=by intro k; cases k <;> decide
theorem yKWy {U:Ty A} {cs:List (D A)} {x:Int} (h:ytQy cs = some x):OkL U cs (yv0y x):=by
 unfold ytQy at h
 split at h
 ·simp only [Option.bind_eq_some_iff] at h
  obtain ⟨b1,h1,hx⟩:=h
  obtain rfl:=Option.some.inj hx
  exact (.cons (gInt h1) .nil)
 ·cases h
theorem yKcy (x:Int):(yv0y x).all D.plain = true:=rfl
theorem yKTy {U:Ty A} {cs:List (D A)} {x:Bool} (h:yvly cs = some x):OkL U cs (yvhy x):=by
 unfold yvly at h
 split at h
 ·simp only [Option.bind_eq_some_iff] at h
  obtain ⟨b1,h1,hx⟩:=h
  obtain rfl:=Option.some.inj hx
  exact (.cons (gBool h1) .nil)
 ·cases h
theorem yJJy (x:Bool):(yvhy x).all D.plain = true:=rfl
theorem yJry {U:Ty A} {cs:List (D A)} {x:List UInt8} (h:yvSy cs = some x):OkL U cs (ytFy x):=by
 unfold yvSy at h
 split at h
 ·simp only [Option.bind_eq_some_iff] at h
  obtain ⟨b1,h1,hx⟩:=h
  obtain rfl:=Option.some.inj hx
  exact (.cons (gStr h1) .nil)
 ·cases h
theorem yKLy (x:List UInt8):(ytFy x).all D.plain = true:=rfl
theorem yIfy {U:Ty A} {cs:List (D A)} {x:G_Stream} (h:yrly cs = some x):OkL U cs (yy6y x):=by
 unfold yrly at h
 split at h
 ·simp only [Option.bind_eq_some_iff] at h
  obtain ⟨b1,h1,b2,h2,hx⟩:=h
  obtain rfl:=Option.some.inj hx
  exact (.cons (gSl h1) (.cons (gInt h2) .nil))
 ·cases h
theorem yHVy {U:Ty A} {cs:List (D A)} {x:List G_Deed} (h:yrJy cs = some x):OkL U cs (yxVy x):=by
 unfold yrJy at h
 split at h
 ·simp only [Option.bind_eq_some_iff] at h
  obtain ⟨b1,h1,hx⟩:=h
  obtain rfl:=Option.some.inj hx
  exact (.cons (gSl h1) .nil)
 ·cases h
theorem yFqy {U:Ty A} {cs:List (D A)} {x:List G_Contact} (h:yr8y cs = some x):OkL U cs (yxUy x):=by
 unfold yr8y at h
 split at h
 ·simp only [Option.bind_eq_some_iff] at h
  obtain ⟨b1,h1,hx⟩:=h
  obtain rfl:=Option.some.inj hx
  exact (.cons (gSl h1) .nil)
 ·cases h
theorem yFYy {U:Ty A} {cs:List (D A)} {x:Int} (h:yr4y cs = some x):OkL U cs (yrMy x):=by
 unfold yr4y at h
 split at h
 ·simp only [Option.bind_eq_some_iff] at h
  obtain ⟨b1,h1,hx⟩:=h
  obtain rfl:=Option.some.inj hx
  exact (.cons (gInt h1) .nil)
 ·cases h
theorem yFsy (x:Int):(yrMy x).all D.plain = true:=rfl
theorem yGuy {U:Ty A} {cs:List (D A)} {x:G_Contact} (h:yrHy cs = some x):OkL U cs (ynBy x):=by
 unfold yrHy at h
 split at h
 ·simp only [Option.bind_eq_some_iff] at h
  obtain ⟨b1,h1,b2,h2,b3,h3,b4,h4,b5,h5,b6,h6,b7,h7,b8,h8,hx⟩:=h
  obtain rfl:=Option.some.inj hx
  exact (.cons (gInt h1) (.cons (gInt h2) (.cons (gStr h3) (.cons (gStr h4) (.cons (gInt h5) (.cons (gInt h6) (.cons (gStr h7) (.cons (gStr h8) .nil))))))))
 ·cases h
theorem yI3y (x:G_Contact):(ynBy x).all D.plain = true:=rfl
theorem yGBy {U:Ty A} {cs:List (D A)} {x:G_Deed} (h:yrZy cs = some x):OkL U cs (ym6y x):=by
 unfold yrZy at h
 split at h
 ·simp only [Option.bind_eq_some_iff] at h
  obtain ⟨b1,h1,b2,h2,b3,h3,b4,h4,b5,h5,b6,h6,b7,h7,b8,h8,b9,h9,b10,h10,b11,h11,b12,h12,b13,h13,b14,h14,b15,h15,hx⟩:=h
  obtain rfl:=Option.some.inj hx
  exact (.cons (gStr h1) (.cons (gInt h2) (.cons (gInt h3) (.cons (gInt h4) (.cons (gInt h5) (.cons (gInt h6) (.cons (gStr h7) (.cons (gStr h8) (.cons (gInt h9) (.cons (gInt h10) (.cons (gStr h11) (.cons (gStr h12) (.cons (gStr h13) (.cons (gStr h14) (.cons (gInt h15) .nil)))))))))))))))
 ·cases h
theorem yF1y (x:G_Deed):(ym6y x).all D.plain = true:=rfl
theorem yHKy {U:Ty A} {cs:List (D A)} {x:G_Desk} (h:yrTy cs = some x):OkL U cs (yr6y x):=by
 unfold yrTy at h
 split at h
 ·simp only [Option.bind_eq_some_iff] at h
  obtain ⟨b1,h1,b2,h2,b3,h3,hx⟩:=h
  obtain rfl:=Option.some.inj hx
  exact (.cons (gStr h1) (.cons (gStr h2) (.cons (gInt h3) .nil)))
 ·cases h
theorem yIPy (x:G_Desk):(yr6y x).all D.plain = true:=rfl
theorem yISy {U:Ty A} {cs:List (D A)} {x:G_net_own} (h:yr0y cs = some x):OkL U cs (yrUy x):=by
 unfold yr0y at h
 split at h
 ·simp only [Option.bind_eq_some_iff] at h
  obtain ⟨b1,h1,b2,h2,hx⟩:=h
  obtain rfl:=Option.some.inj hx
  exact (.cons (gStr h1) (.cons (gInt h2) .nil))
 ·cases h
theorem yGNy (x:G_net_own):(yrUy x).all D.plain = true:=rfl
theorem yIjy {U:Ty A} {cs:List (D A)} {x:G_Window} (h:yrNy cs = some x):OkL U cs (yrDy x):=by
 unfold yrNy at h
 split at h
 ·simp only [Option.bind_eq_some_iff] at h
  obtain ⟨b1,h1,b2,h2,hx⟩:=h
  obtain rfl:=Option.some.inj hx
  exact (.cons (gInt h1) (.cons (gInt h2) .nil))
 ·cases h
theorem yIVy (x:G_Window):(yrDy x).all D.plain = true:=rfl
theorem yJhy {U:Ty A} {cs:List (D A)} {x:G_Segment} (h:yruy cs = some x):OkL U cs (yx8y x):=by
 unfold yruy at h
 split at h
 ·simp only [Option.bind_eq_some_iff] at h
  obtain ⟨b1,h1,b2,h2,b3,h3,b4,h4,b5,h5,b6,h6,hx⟩:=h
  obtain rfl:=Option.some.inj hx
  exact (.cons (gStr h1) (.cons (gInt h2) (.cons (gInt h3) (.cons (gSl h4) (.cons (gInt h5) (.cons (gInt h6) .nil))))))
 ·cases h
theorem yGay {U:Ty A} {cs:List (D A)} {x:G_Entrant} (h:yrky cs = some x):OkL U cs (yrOy x):=by
 unfold yrky at h
 split at h
 ·simp only [Option.bind_eq_some_iff] at h
  obtain ⟨b1,h1,b2,h2,b3,h3,b4,h4,hx⟩:=h
  obtain rfl:=Option.some.inj hx
  exact (.cons (gStr h1) (.cons (gStr h2) (.cons (gInt h3) (.cons (gStr h4) .nil))))
 ·cases h
theorem yFOy (x:G_Entrant):(yrOy x).all D.plain = true:=rfl
theorem yDUy {U:Ty A} {cs:List (D A)} {x:G_log_worked} (h:yo4y cs = some x):OkL U cs (yoYy x):=by
 unfold yo4y at h
 split at h
 ·simp only [Option.bind_eq_some_iff] at h
  obtain ⟨b1,h1,b2,h2,b3,h3,hx⟩:=h
  obtain rfl:=Option.some.inj hx
  exact (.cons (gStr h1) (.cons (gStr h2) (.cons (gInt h3) .nil)))
 ·cases h
theorem yEuy (x:G_log_worked):(yoYy x).all D.plain = true:=rfl
theorem yDQy {U:Ty A} {cs:List (D A)} {x:G_Row} (h:yoUy cs = some x):OkL U cs (ykKy x):=by
 unfold yoUy at h
 split at h
 ·simp only [Option.bind_eq_some_iff] at h
  obtain ⟨b1,h1,b2,h2,hx⟩:=h
  obtain rfl:=Option.some.inj hx
  exact (.cons (gInt h1) (.cons (gInt h2) .nil))
 ·cases h
theorem yD9y (x:G_Row):(ykKy x).all D.plain = true:=rfl
theorem yD5y {U:Ty A} {cs:List (D A)} {x:G_Place} (h:yoRy cs = some x):OkL U cs (yk6y x):=by
 unfold yoRy at h
 split at h
 ·simp only [Option.bind_eq_some_iff] at h
  obtain ⟨b1,h1,b2,h2,b3,h3,hx⟩:=h
  obtain rfl:=Option.some.inj hx
  exact (.cons (gInt h1) (.cons (gInt h2) (.cons (gStr h3) .nil)))
 ·cases h
theorem yEmy (x:G_Place):(yk6y x).all D.plain = true:=rfl
theorem yD4y {U:Ty A} {cs:List (D A)} {x:G_Parts} (h:yo1y cs = some x):OkL U cs (yoSy x):=by
 unfold yo1y at h
 split at h
 ·simp only [Option.bind_eq_some_iff] at h
  obtain ⟨b1,h1,b2,h2,b3,h3,b4,h4,b5,h5,hx⟩:=h
  obtain rfl:=Option.some.inj hx
  exact (.cons (gStr h1) (.cons (gStr h2) (.cons (gStr h3) (.cons (gInt h4) (.cons (gStr h5) .nil)))))
 ·cases h
theorem yEqy (x:G_Parts):(yoSy x).all D.plain = true:=rfl
def TD:Ty A:=T.day
theorem decOk {U:Ty A}:∀ k cs x,decE k cs = some x→OkL U cs (encE k x):=by
 intro k cs x h
 cases k
 case e3=>exact yKWy h
 case e4=>exact yKTy h
 case e9=>exact yJry h
 case e25=>exact yIfy h
 case e26=>exact yHVy h
 case e29=>exact yFqy h
 case e30=>exact yFYy h
 case e39=>exact yGuy h
 case e41=>exact yGBy h
 case e53=>exact yHKy h
 case e70=>exact yISy h
 case e87=>exact yIjy h
 case e89=>exact yJhy h
 case e95=>exact yGay h
 case e123=>exact yDUy h
 case e130=>exact yDQy h
 case e138=>exact yD5y h
 case e163=>exact yD4y h
 case no=>cases h
theorem tyOkD (P:Program):TyOk P TD:=⟨fun e x=>lenE (el e) x,fun e=>posE (el e),fun e cs x h=>by
 obtain ⟨h1,h2⟩:=decOk (U:=TD) (el e) cs x h
 exact ⟨h1.trans (lenE (el e) x),h2⟩⟩
theorem tyOk (P:Program):TyOk P T:=⟨fun e x=>lenE (el e) x,fun e=>posE (el e),fun e cs x h=>by
 obtain ⟨h1,h2⟩:=decOk (el e) cs x h
 exact ⟨h1.trans (lenE (el e) x),h2⟩⟩
def flatE:El→Bool
 | .e3=>true
 | .e4=>true
 | .e9=>true
 | .e25=>false
 | .e26=>false
 | .e29=>false
 | .e30=>true
 | .e39=>true
 | .e41=>true
 | .e53=>true
 | .e70=>true
 | .e87=>true
 | .e89=>false
 | .e95=>true
 | .e123=>true
 | .e130=>true
 | .e138=>true
 | .e163=>true
 | .no=>false
def flatT (e:Nat):Bool:=flatE (el e)
theorem yx2y:∀ k,flatE k = true→∀ x d,d ∈ encE k x→D.plain d = true:=by
 intro k h x d hd
 cases k
 case e3=>exact List.all_eq_true.1 (yKcy x) d hd
 case e4=>exact List.all_eq_true.1 (yJJy x) d hd
 case e9=>exact List.all_eq_true.1 (yKLy x) d hd
 case e25=>cases h
 case e26=>cases h
 case e29=>cases h
 case e30=>exact List.all_eq_true.1 (yFsy x) d hd
 case e39=>exact List.all_eq_true.1 (yI3y x) d hd
 case e41=>exact List.all_eq_true.1 (yF1y x) d hd
 case e53=>exact List.all_eq_true.1 (yIPy x) d hd
 case e70=>exact List.all_eq_true.1 (yGNy x) d hd
 case e87=>exact List.all_eq_true.1 (yIVy x) d hd
 case e89=>cases h
 case e95=>exact List.all_eq_true.1 (yFOy x) d hd
 case e123=>exact List.all_eq_true.1 (yEuy x) d hd
 case e130=>exact List.all_eq_true.1 (yD9y x) d hd
 case e138=>exact List.all_eq_true.1 (yEmy x) d hd
 case e163=>exact List.all_eq_true.1 (yEqy x) d hd
 case no=>cases h
def ycdy (x y:G_Contact):Bool:=(x.f_At == y.f_At && (x.f_Mode == y.f_Mode && (x.f_Band == y.f_Band && (x.f_Call == y.f_Call && (x.f_Sent == y.f_Sent && (x.f_Heard == y.f_Heard && (x.f_Gave == y.f_Gave && (x.f_Got == y.f_Got && true))))))))
def ya0y (x y:G_Deed):Bool:=(x.f_Site == y.f_Site && (x.f_No == y.f_No && (x.f_At == y.f_At && (x.f_Kind == y.f_Kind && ((x.f_Contact.f_At == y.f_Contact.f_At && (x.f_Contact.f_Mode == y.f_Contact.f_Mode && (x.f_Contact.f_Band == y.f_Contact.f_Band && (x.f_Contact.f_Call == y.f_Contact.f_Call && (x.f_Contact.f_Sent == y.f_Contact.f_Sent && (x.f_Contact.f_Heard == y.f_Contact.f_Heard && (x.f_Contact.f_Gave == y.f_Contact.f_Gave && (x.f_Contact.f_Got == y.f_Contact.f_Got && true)))))))) && (x.f_Band == y.f_Band && (x.f_Of == y.f_Of && (x.f_Other == y.f_Other && true))))))))
def ycgy (x:Int) (m:List (Int×Int)):Option Int:=getM T 3 3 x m
def yhKy (x:Int) (m:List (Int×Int)):List (Int×Int):=delM T 3 3 x m
def ydFy (x:Int) (y:Int) (m:List (Int×Int)):List (Int×Int):=setM T 3 3 x y m
def yr3y (x y:Int):Bool:=(x == y && true)
theorem mget_int_int_nil (x:Int):ycgy x [] = none:=by kernel_rfl
theorem mget_int_int_cons (x:Int) (p:Int×Int) (m:List (Int×Int)):ycgy x (p :: m) = bif yr3y x p.1 then some p.2 else ycgy x m:=by kernel_rfl
theorem mdel_int_int_nil (x:Int):yhKy x [] = []:=by kernel_rfl
theorem mdel_int_int_cons (x:Int) (p:Int×Int) (m:List (Int×Int)):yhKy x (p :: m) = bif yr3y x p.1 then m else p :: yhKy x m:=by kernel_rfl
theorem mset_int_int_nil (x:Int) (y:Int):ydFy x y [] = [(x,y)]:=by kernel_rfl
theorem mset_int_int_cons (x:Int) (y:Int) (p:Int×Int) (m:List (Int×Int)):ydFy x y (p :: m) = bif yr3y x p.1 then (x,y) :: m else p :: ydFy x y m:=by kernel_rfl
def yaay (x:List UInt8) (m:List (List UInt8×Int)):Option Int:=getM T 9 3 x m
def yfry (x:List UInt8) (m:List (List UInt8×Int)):List (List UInt8×Int):=delM T 9 3 x m
def yaby (x:List UInt8) (y:Int) (m:List (List UInt8×Int)):List (List UInt8×Int):=setM T 9 3 x y m
def ybgy (x y:List UInt8):Bool:=(x == y && true)
theorem mget_string_int_nil (x:List UInt8):yaay x [] = none:=by kernel_rfl
theorem mget_string_int_cons (x:List UInt8) (p:List UInt8×Int) (m:List (List UInt8×Int)):yaay x (p :: m) = bif ybgy x p.1 then some p.2 else yaay x m:=by kernel_rfl
theorem mdel_string_int_nil (x:List UInt8):yfry x [] = []:=by kernel_rfl
theorem mdel_string_int_cons (x:List UInt8) (p:List UInt8×Int) (m:List (List UInt8×Int)):yfry x (p :: m) = bif ybgy x p.1 then m else p :: yfry x m:=by kernel_rfl
theorem mset_string_int_nil (x:List UInt8) (y:Int):yaby x y [] = [(x,y)]:=by kernel_rfl
theorem mset_string_int_cons (x:List UInt8) (y:Int) (p:List UInt8×Int) (m:List (List UInt8×Int)):yaby x y (p :: m) = bif ybgy x p.1 then (x,y) :: m else p :: yaby x y m:=by kernel_rfl
def yeuy (x:List UInt8) (m:List (List UInt8×Bool)):Option Bool:=getM T 9 4 x m
def yeAy (x:List UInt8) (m:List (List UInt8×Bool)):List (List UInt8×Bool):=delM T 9 4 x m
def ya7y (x:List UInt8) (y:Bool) (m:List (List UInt8×Bool)):List (List UInt8×Bool):=setM T 9 4 x y m
theorem mget_string_bool_nil (x:List UInt8):yeuy x [] = none:=by kernel_rfl
theorem mget_string_bool_cons (x:List UInt8) (p:List UInt8×Bool) (m:List (List UInt8×Bool)):yeuy x (p :: m) = bif ybgy x p.1 then some p.2 else yeuy x m:=by kernel_rfl
theorem mdel_string_bool_nil (x:List UInt8):yeAy x [] = []:=by kernel_rfl
theorem mdel_string_bool_cons (x:List UInt8) (p:List UInt8×Bool) (m:List (List UInt8×Bool)):yeAy x (p :: m) = bif ybgy x p.1 then m else p :: yeAy x m:=by kernel_rfl
theorem mset_string_bool_nil (x:List UInt8) (y:Bool):ya7y x y [] = [(x,y)]:=by kernel_rfl
theorem mset_string_bool_cons (x:List UInt8) (y:Bool) (p:List UInt8×Bool) (m:List (List UInt8×Bool)):ya7y x y (p :: m) = bif ybgy x p.1 then (x,y) :: m else p :: ya7y x y m:=by kernel_rfl
def ybey (x:G_Contact) (m:List (G_Contact×Bool)):Option Bool:=getM T 39 4 x m
def ydSy (x:G_Contact) (m:List (G_Contact×Bool)):List (G_Contact×Bool):=delM T 39 4 x m
def ybKy (x:G_Contact) (y:Bool) (m:List (G_Contact×Bool)):List (G_Contact×Bool):=setM T 39 4 x y m
def yaQy (x y:G_Contact):Bool:=(x.f_At == y.f_At && (x.f_Mode == y.f_Mode && (x.f_Band == y.f_Band && (x.f_Call == y.f_Call && (x.f_Sent == y.f_Sent && (x.f_Heard == y.f_Heard && (x.f_Gave == y.f_Gave && (x.f_Got == y.f_Got && true))))))))
theorem yjly (x:G_Contact):ybey x [] = none:=by kernel_rfl
theorem mget_Contact_bool_cons (x:G_Contact) (p:G_Contact×Bool) (m:List (G_Contact×Bool)):ybey x (p :: m) = bif yaQy x p.1 then some p.2 else ybey x m:=by kernel_rfl
theorem mdel_Contact_bool_nil (x:G_Contact):ydSy x [] = []:=by kernel_rfl
theorem mdel_Contact_bool_cons (x:G_Contact) (p:G_Contact×Bool) (m:List (G_Contact×Bool)):ydSy x (p :: m) = bif yaQy x p.1 then m else p :: ydSy x m:=by kernel_rfl
theorem mset_Contact_bool_nil (x:G_Contact) (y:Bool):ybKy x y [] = [(x,y)]:=by kernel_rfl
theorem mset_Contact_bool_cons (x:G_Contact) (y:Bool) (p:G_Contact×Bool) (m:List (G_Contact×Bool)):ybKy x y (p :: m) = bif yaQy x p.1 then (x,y) :: m else p :: ybKy x y m:=by kernel_rfl
def yaly (x:G_Contact) (m:List (G_Contact×G_Deed)):Option G_Deed:=getM T 39 41 x m
def ydPy (x:G_Contact) (m:List (G_Contact×G_Deed)):List (G_Contact×G_Deed):=delM T 39 41 x m
def yaIy (x:G_Contact) (y:G_Deed) (m:List (G_Contact×G_Deed)):List (G_Contact×G_Deed):=setM T 39 41 x y m
theorem mget_Contact_Deed_nil (x:G_Contact):yaly x [] = none:=by kernel_rfl
theorem mget_Contact_Deed_cons (x:G_Contact) (p:G_Contact×G_Deed) (m:List (G_Contact×G_Deed)):yaly x (p :: m) = bif yaQy x p.1 then some p.2 else yaly x m:=by kernel_rfl
theorem mdel_Contact_Deed_nil (x:G_Contact):ydPy x [] = []:=by kernel_rfl
theorem mdel_Contact_Deed_cons (x:G_Contact) (p:G_Contact×G_Deed) (m:List (G_Contact×G_Deed)):ydPy x (p :: m) = bif yaQy x p.1 then m else p :: ydPy x m:=by kernel_rfl
theorem mset_Contact_Deed_nil (x:G_Contact) (y:G_Deed):yaIy x y [] = [(x,y)]:=by kernel_rfl
theorem mset_Contact_Deed_cons (x:G_Contact) (y:G_Deed) (p:G_Contact×G_Deed) (m:List (G_Contact×G_Deed)):yaIy x y (p :: m) = bif yaQy x p.1 then (x,y) :: m else p :: yaIy x y m:=by kernel_rfl
def ya1y (x:G_net_own) (m:List (G_net_own×Bool)):Option Bool:=getM T 70 4 x m
def yaJy (x:G_net_own) (m:List (G_net_own×Bool)):List (G_net_own×Bool):=delM T 70 4 x m
def yaLy (x:G_net_own) (y:Bool) (m:List (G_net_own×Bool)):List (G_net_own×Bool):=setM T 70 4 x y m
def yaDy (x y:G_net_own):Bool:=(x.f_site == y.f_site && (x.f_no == y.f_no && true))
theorem mget_net_own_bool_nil (x:G_net_own):ya1y x [] = none:=by kernel_rfl
theorem mget_net_own_bool_cons (x:G_net_own) (p:G_net_own×Bool) (m:List (G_net_own×Bool)):ya1y x (p :: m) = bif yaDy x p.1 then some p.2 else ya1y x m:=by kernel_rfl
theorem mdel_net_own_bool_nil (x:G_net_own):yaJy x [] = []:=by kernel_rfl
theorem mdel_net_own_bool_cons (x:G_net_own) (p:G_net_own×Bool) (m:List (G_net_own×Bool)):yaJy x (p :: m) = bif yaDy x p.1 then m else p :: yaJy x m:=by kernel_rfl
theorem mset_net_own_bool_nil (x:G_net_own) (y:Bool):yaLy x y [] = [(x,y)]:=by kernel_rfl
theorem mset_net_own_bool_cons (x:G_net_own) (y:Bool) (p:G_net_own×Bool) (m:List (G_net_own×Bool)):yaLy x y (p :: m) = bif yaDy x p.1 then (x,y) :: m else p :: yaLy x y m:=by kernel_rfl
def yany (x:G_net_own) (m:List (G_net_own×G_Deed)):Option G_Deed:=getM T 70 41 x m
def ydQy (x:G_net_own) (m:List (G_net_own×G_Deed)):List (G_net_own×G_Deed):=delM T 70 41 x m
def ybsy (x:G_net_own) (y:G_Deed) (m:List (G_net_own×G_Deed)):List (G_net_own×G_Deed):=setM T 70 41 x y m
theorem mget_net_own_Deed_nil (x:G_net_own):yany x [] = none:=by kernel_rfl
theorem mget_net_own_Deed_cons (x:G_net_own) (p:G_net_own×G_Deed) (m:List (G_net_own×G_Deed)):yany x (p :: m) = bif yaDy x p.1 then some p.2 else yany x m:=by kernel_rfl
theorem mdel_net_own_Deed_nil (x:G_net_own):ydQy x [] = []:=by kernel_rfl
theorem mdel_net_own_Deed_cons (x:G_net_own) (p:G_net_own×G_Deed) (m:List (G_net_own×G_Deed)):ydQy x (p :: m) = bif yaDy x p.1 then m else p :: ydQy x m:=by kernel_rfl
theorem mset_net_own_Deed_nil (x:G_net_own) (y:G_Deed):ybsy x y [] = [(x,y)]:=by kernel_rfl
theorem mset_net_own_Deed_cons (x:G_net_own) (y:G_Deed) (p:G_net_own×G_Deed) (m:List (G_net_own×G_Deed)):ybsy x y (p :: m) = bif yaDy x p.1 then (x,y) :: m else p :: ybsy x y m:=by kernel_rfl
def yaEy (x:G_log_worked) (m:List (G_log_worked×Bool)):Option Bool:=getM T 123 4 x m
def ycRy (x:G_log_worked) (m:List (G_log_worked×Bool)):List (G_log_worked×Bool):=delM T 123 4 x m
def ya6y (x:G_log_worked) (y:Bool) (m:List (G_log_worked×Bool)):List (G_log_worked×Bool):=setM T 123 4 x y m
def ybqy (x y:G_log_worked):Bool:=(x.f_base == y.f_base && (x.f_band == y.f_band && (x.f_mode == y.f_mode && true)))
theorem mget_log_worked_bool_nil (x:G_log_worked):yaEy x [] = none:=by kernel_rfl
theorem mget_log_worked_bool_cons (x:G_log_worked) (p:G_log_worked×Bool) (m:List (G_log_worked×Bool)):yaEy x (p :: m) = bif ybqy x p.1 then some p.2 else yaEy x m:=by kernel_rfl
theorem mdel_log_worked_bool_nil (x:G_log_worked):ycRy x [] = []:=by kernel_rfl
theorem mdel_log_worked_bool_cons (x:G_log_worked) (p:G_log_worked×Bool) (m:List (G_log_worked×Bool)):ycRy x (p :: m) = bif ybqy x p.1 then m else p :: ycRy x m:=by kernel_rfl
theorem mset_log_worked_bool_nil (x:G_log_worked) (y:Bool):ya6y x y [] = [(x,y)]:=by kernel_rfl
theorem mset_log_worked_bool_cons (x:G_log_worked) (y:Bool) (p:G_log_worked×Bool) (m:List (G_log_worked×Bool)):ya6y x y (p :: m) = bif ybqy x p.1 then (x,y) :: m else p :: ya6y x y m:=by kernel_rfl
theorem ko_3x (x p:Int):eqT Tryz.prog 64 3 (yaRy T 3 x) (yaRy T 3 p) = some ((x:Int) == (p:Int)):=by kernel_rfl
theorem ko_3y (x p:Int):some (eqDs (T.enc 3 x) (T.enc 3 p)) = some ((x == p) && true):=by kernel_rfl
theorem ko_3z (x p:Int):eqT Tryz.prog 64 3 (yaRy T 3 x) (yaRy T 3 p) = some (eqDs (T.enc 3 x) (T.enc 3 p)):=(ko_3x x p).trans (((congrArg some (Bool.and_true (x == p))).symm).trans (ko_3y x p).symm)
theorem ko_3:KeyOk Tryz.prog T 3:=fun x p=>ko_3z x p
theorem kd_3:∃ kd,Tryz.prog.underlying 3 = some kd:=Option.isSome_iff_exists.1 (by kernel_rfl)
theorem ko_9x (x p:List UInt8):eqT Tryz.prog 64 9 (yaRy T 9 x) (yaRy T 9 p) = some ((x:List UInt8) == (p:List UInt8)):=by kernel_rfl
theorem ko_9y (x p:List UInt8):some (eqDs (T.enc 9 x) (T.enc 9 p)) = some ((x == p) && true):=by kernel_rfl
theorem ko_9z (x p:List UInt8):eqT Tryz.prog 64 9 (yaRy T 9 x) (yaRy T 9 p) = some (eqDs (T.enc 9 x) (T.enc 9 p)):=(ko_9x x p).trans (((congrArg some (Bool.and_true (x == p))).symm).trans (ko_9y x p).symm)
theorem ko_9:KeyOk Tryz.prog T 9:=fun x p=>ko_9z x p
theorem kd_9:∃ kd,Tryz.prog.underlying 9 = some kd:=Option.isSome_iff_exists.1 (by kernel_rfl)
theorem yJwy (x p:G_Contact):eqT Tryz.prog 64 39 (yaRy T 39 x) (yaRy T 39 p) = some (eqDs (T.enc 39 x) (T.enc 39 p)):=by kernel_rfl
theorem ko_39:KeyOk Tryz.prog T 39:=by
 intro x p
 exact yJwy x p
theorem kd_39:∃ kd,Tryz.prog.underlying 39 = some kd:=Option.isSome_iff_exists.1 (by kernel_rfl)
theorem yKdy (x p:G_net_own):eqT Tryz.prog 64 70 (yaRy T 70 x) (yaRy T 70 p) = some (eqDs (T.enc 70 x) (T.enc 70 p)):=by kernel_rfl
theorem ko_70:KeyOk Tryz.prog T 70:=by
 intro x p
 exact yKdy x p
theorem kd_70:∃ kd,Tryz.prog.underlying 70 = some kd:=Option.isSome_iff_exists.1 (by kernel_rfl)
theorem yI2y (x p:G_log_worked):eqT Tryz.prog 64 123 (yaRy T 123 x) (yaRy T 123 p) = some (eqDs (T.enc 123 x) (T.enc 123 p)):=by kernel_rfl
theorem yJqy:KeyOk Tryz.prog T 123:=by
 intro x p
 exact yI2y x p
theorem yJoy:∃ kd,Tryz.prog.underlying 123 = some kd:=Option.isSome_iff_exists.1 (by kernel_rfl)
def keyT (k:Nat):Bool:=k == 3 || k == 9 || k == 39 || k == 70 || k == 123
theorem yBCy:∀ k,keyT k = true→KeyOk Tryz.prog T k∧∃ kd,Tryz.prog.underlying k = some kd:=by
 intro k h
 simp only [keyT,Bool.or_eq_true,beq_iff_eq] at h
 rcases h with (((rfl | rfl) | rfl) | rfl) | rfl
 ·exact ⟨ko_3,kd_3⟩
 ·exact ⟨ko_9,kd_9⟩
 ·exact ⟨ko_39,kd_39⟩
 ·exact ⟨ko_70,kd_70⟩
 ·exact ⟨yJqy,yJoy⟩
theorem yJ8y:yecy T flatT:=fun e h x d hd=>yx2y (el e) h x d hd
theorem yKby:SpOk Tryz.prog T 88 (.wrap 125 true):=yHCy (M:=144) (yaSy (fn:=Tryz.f88) Tryz.func88 (by kernel_rfl) (by kernel_rfl)) fun mb w=>(callsIn_wide (n:=5)).1 (Go.Proofs.AnyZ.keys_in Tryz.keys88 Fence.wide 5 trivial rfl mb w)
def srtK9:List (List UInt8)→Option (List (List UInt8)):=ordS (A:=A) (k:=9) (fun x=>x) (fun x=>x)
theorem yEgy (m:Nat):Go.Proofs.AnyZ.SortsIn Tryz.prog Tryz.sorted87_ren Fence.wide m :=
 ⟨fun blk off cap ss W hH hblk hsz=>callsIn_wide.2 (Go.Proofs.AnyM.slices_Sort_string Tryz.sort124 blk off cap ss W hH hblk hsz),fun p cap W=>callsIn_wide.2 (Go.Proofs.AnyM.slices_Sort_string_none Tryz.sort124 p cap W)⟩
theorem yBNy:yC0y Tryz.prog 9 87 125:=fun b nn B D0 R w hown hmax hbytes hm hB =>
 (callsIn_wide (n:=5)).1 (Go.Proofs.AnyZ.sorted_in Tryz.sorted87 Fence.wide 5 trivial trivial trivial trivial rfl (by omega) (yEgy _) (yaSy Tryz.func124 (by kernel_rfl) rfl) 125 #[.pointer (some ⟨B,0,none⟩)] trivial (yaSy Tryz.func125 (by kernel_rfl) rfl) _ _ hmax hbytes _
  (Go.Proofs.AnyZ.keys_gives (ρ:=Tryz.keys88_ren) { Tryz.keys88 with } Fence.wide _ trivial rfl (by omega) B b nn D0 _ hB hm hown))
theorem yJly:SpOk Tryz.prog T 87 (.keys [125] 9 srtK9):=yJWy (A:=A) (T:=T) (k:=9) rfl (fun x=>x) (fun x=>x) (fun _=>rfl) (fun _=>rfl) rfl rfl Tryz.underlying9 (yaSy (fn:=Tryz.f87) Tryz.func87 (by kernel_rfl) (by kernel_rfl)) (by intro q hq; rw [List.mem_singleton] at hq; subst hq <;> first | exact yBNy)
def spT:List (Nat×Sp A):=[(87,.keys [125] 9 srtK9),(88,.wrap 125 true)]
theorem spAll:SpAll Tryz.prog T spT:=.cons yJly (.cons yKby (.nil))
theorem std:Std Tryz.prog T keyT flatT (fun f=>spT.lookup f):=⟨tyOk Tryz.prog,yJ8y,yBCy,spAll.ok,by kernel_rfl⟩
abbrev Ok (f:Nat) (S:Spec A):Prop:=OkF Tryz.prog T f S
theorem stdD:Std Tryz.prog TD keyT flatT (fun _=>none):=⟨tyOkD Tryz.prog,fun e h x d hd=>yx2y (el e) h x d hd,yBCy,fun _ _ h=>(by cases h),by kernel_rfl⟩
abbrev OkD (f:Nat) (S:Spec A):Prop:=OkF Tryz.prog TD f S
noncomputable def mkE (C:List (Nat×Spec A)) (tg:List (Nat×List Nat)) (lh xh:List (Nat×Hint)) (cl:List (Nat×Piece A)) (sh xs:List (Nat×Hint)) (cs:List (Nat×Piece A)) (md:List (Nat×Nat)) (pin:List Nat):Env A :=
 { P:=Tryz.prog,T:=T,C:=fun f=>C.lookup f,tg:=fun d=>(tg.lookup d).getD [],seqH:=fun i=>sh.lookup i,loopH:=fun i=>lh.lookup i,exitH:=fun i=>xh.lookup i,exitS:=fun i=>xs.lookup i,cutS:=fun i=>cs.lookup i,cutL:=fun i=>cl.lookup i,mode:=fun f i=>md.contains (f,i),sp:=fun f=>spT.lookup f,keyed:=keyT,flat:=flatT,pin:=pin }
noncomputable def mkED (C:List (Nat×Spec A)) (tg:List (Nat×List Nat)) (lh xh:List (Nat×Hint)) (cl:List (Nat×Piece A)) (sh xs:List (Nat×Hint)) (cs:List (Nat×Piece A)) (md:List (Nat×Nat)) (pin:List Nat):Env A :=
 { P:=Tryz.prog,T:=TD,C:=fun f=>C.lookup f,tg:=fun d=>(tg.lookup d).getD [],seqH:=fun i=>sh.lookup i,loopH:=fun i=>lh.lookup i,exitH:=fun i=>xh.lookup i,exitS:=fun i=>xs.lookup i,cutS:=fun i=>cs.lookup i,cutL:=fun i=>cl.lookup i,mode:=fun f i=>md.contains (f,i),keyed:=keyT,flat:=flatT,pin:=pin }
end Go.Am
