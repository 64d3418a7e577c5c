/- The functions of the program as Lean functions, each shown to be what the code computes, part 0. No condition: lemmas for the claim. -/
import Derived.Test.YtphcgliehecbkaaGreatDoorAmPrint
import Derived.Test.YtphcgliehecbkaaGreatDoorAmIn
import Derived.Test.YtphcgliehecbkaaGreatDoorFSh
import Derived.Test.YtphcgliehecbkaaGreatDoorAmExt2
import Derived.Test.YtphcgliehecbkaaGreatDoorProg
import Derived.KernelRfl
set_option linter.unusedVariables false
set_option maxRecDepth 100000
namespace Go.Am
open Go Go.Proofs
structure G_Stream where
 f_L:List Int
 f_at:Int
 deriving DecidableEq
structure G_Contact where
 f_At:Int
 f_Mode:Int
 f_Band:List UInt8
 f_Call:List UInt8
 f_Sent:Int
 f_Heard:Int
 f_Gave:List UInt8
 f_Got:List UInt8
 deriving DecidableEq
structure G_Deed where
 f_Site:List UInt8
 f_No:Int
 f_At:Int
 f_Kind:Int
 f_Contact:G_Contact
 f_Band:List UInt8
 f_Of:List UInt8
 f_Other:Int
 deriving DecidableEq
structure G_Desk where
 f_Site:List UInt8
 f_Band:List UInt8
 f_Contacts:Int
 deriving DecidableEq
structure G_net_own where
 f_site:List UInt8
 f_no:Int
 deriving DecidableEq
structure G_Window where
 f_From:Int
 f_To:Int
 deriving DecidableEq
structure G_Segment where
 f_Class:List UInt8
 f_Low:Int
 f_High:Int
 f_Modes:List Int
 f_Time:G_Window
 deriving DecidableEq
structure G_Entrant where
 f_Call:List UInt8
 f_Category:List UInt8
 f_Points:Int
 f_Locator:List UInt8
 deriving DecidableEq
structure G_Row where
 f_From:Int
 f_To:Int
 deriving DecidableEq
structure G_Place where
 f_Rank:Int
 f_Points:Int
 f_Key:List UInt8
 deriving DecidableEq
structure G_log_worked where
 f_base:List UInt8
 f_band:List UInt8
 f_mode:Int
 deriving DecidableEq
structure G_Parts where
 f_Base:List UInt8
 f_Prefix:List UInt8
 f_Suffix:List UInt8
 f_Kind:Int
 f_Added:List UInt8
 deriving DecidableEq
inductive El where
 | e3 | e4 | e9 | e25 | e26 | e28 | e33 | e35 | e46 | e67 | e84 | e86 | e92 | e117 | e125 | e160 | e190 | no
def el:Nat→El
 | 3=>.e3
 | 4=>.e4
 | 9=>.e9
 | 25=>.e25
 | 26=>.e26
 | 28=>.e28
 | 33=>.e33
 | 35=>.e35
 | 46=>.e46
 | 67=>.e67
 | 84=>.e84
 | 86=>.e86
 | 92=>.e92
 | 117=>.e117
 | 125=>.e125
 | 160=>.e160
 | 190=>.e190
 | _=>.no
def AE:El→Type
 | .e3=>Int
 | .e4=>Bool
 | .e9=>List UInt8
 | .e25=>G_Stream
 | .e26=>List G_Deed
 | .e28=>Int
 | .e33=>G_Contact
 | .e35=>G_Deed
 | .e46=>G_Desk
 | .e67=>G_net_own
 | .e84=>G_Window
 | .e86=>G_Segment
 | .e92=>G_Entrant
 | .e117=>G_Row
 | .e125=>G_Place
 | .e160=>G_log_worked
 | .e190=>G_Parts
 | .no=>Unit
abbrev A (e:Nat):Type:=AE (el e)
def sizeE:El→Nat
 | .e3=>1
 | .e4=>1
 | .e9=>1
 | .e25=>2
 | .e26=>1
 | .e28=>1
 | .e33=>8
 | .e35=>15
 | .e46=>3
 | .e67=>2
 | .e84=>2
 | .e86=>6
 | .e92=>4
 | .e117=>2
 | .e125=>3
 | .e160=>3
 | .e190=>5
 | .no=>1
def ys0y (x:Int):List (D A):=[.int .i64 x]
def ytxy (cs:List (D A)):Option (Int):=match cs with | [c0]=>(dInt .i64 c0).bind fun b1=>some b1 | _=>none
def yu7y (x:Bool):List (D A):=[.bool x]
def yuqy (cs:List (D A)):Option (Bool):=match cs with | [c0]=>(dBool c0).bind fun b1=>some b1 | _=>none
def ytpy (x:List UInt8):List (D A):=[.str x]
def ytfy (cs:List (D A)):Option (List UInt8):=match cs with | [c0]=>(dStr c0).bind fun b1=>some b1 | _=>none
def ywKy (x:G_Stream):List (D A):=[.sl 3 x.f_L,.int .i64 x.f_at]
def yqsy (cs:List (D A)):Option (G_Stream):=match cs with | [c0,c1]=>(dSl 3 c0).bind fun b1=>(dInt .i64 c1).bind fun b2=>some ⟨b1,b2⟩ | _=>none
def yxty (x:List G_Deed):List (D A):=[.sl 35 x]
def yqcy (cs:List (D A)):Option (List G_Deed):=match cs with | [c0]=>(dSl 35 c0).bind fun b1=>some b1 | _=>none
def yp8y (x:Int):List (D A):=[.int .i64 x]
def yqhy (cs:List (D A)):Option (Int):=match cs with | [c0]=>(dInt .i64 c0).bind fun b1=>some b1 | _=>none
def ymLy (x:G_Contact):List (D A):=[.int .i64 x.f_At,.int .i64 x.f_Mode,.str x.f_Band,.str x.f_Call,.int .i64 x.f_Sent,.int .i64 x.f_Heard,.str x.f_Gave,.str x.f_Got]
def yqgy (cs:List (D A)):Option (G_Contact):=match cs with | [c0,c1,c2,c3,c4,c5,c6,c7]=>(dInt .i64 c0).bind fun b1=>(dInt .i64 c1).bind fun b2=>(dStr c2).bind fun b3=>(dStr c3).bind fun b4=>(dInt .i64 c4).bind fun b5=>(dInt .i64 c5).bind fun b6=>(dStr c6).bind fun b7=>(dStr c7).bind fun b8=>some ⟨b1,b2,b3,b4,b5,b6,b7,b8⟩ | _=>none
def ymhy (x:G_Deed):List (D A):=[.str x.f_Site,.int .i64 x.f_No,.int .i64 x.f_At,.int .i64 x.f_Kind,.int .i64 x.f_Contact.f_At,.int .i64 x.f_Contact.f_Mode,.str x.f_Contact.f_Band,.str x.f_Contact.f_Call,.int .i64 x.f_Contact.f_Sent,.int .i64 x.f_Contact.f_Heard,.str x.f_Contact.f_Gave,.str x.f_Contact.f_Got,.str x.f_Band,.str x.f_Of,.int .i64 x.f_Other]
def yqSy (cs:List (D A)):Option (G_Deed):=match cs with | [c0,c1,c2,c3,c4,c5,c6,c7,c8,c9,c10,c11,c12,c13,c14]=>(dStr c0).bind fun b1=>(dInt .i64 c1).bind fun b2=>(dInt .i64 c2).bind fun b3=>(dInt .i64 c3).bind fun b4=>(dInt .i64 c4).bind fun b5=>(dInt .i64 c5).bind fun b6=>(dStr c6).bind fun b7=>(dStr c7).bind fun b8=>(dInt .i64 c8).bind fun b9=>(dInt .i64 c9).bind fun b10=>(dStr c10).bind fun b11=>(dStr c11).bind fun b12=>(dStr c12).bind fun b13=>(dStr c13).bind fun b14=>(dInt .i64 c14).bind fun b15=>some ⟨b1,b2,b3,b4,⟨b5,b6,b7,b8,b9,b10,b11,b12⟩,b13,b14,b15⟩ | _=>none
def yqKy (x:G_Desk):List (D A):=[.str x.f_Site,.str x.f_Band,.int .i64 x.f_Contacts]
def yqGy (cs:List (D A)):Option (G_Desk):=match cs with | [c0,c1,c2]=>(dStr c0).bind fun b1=>(dStr c1).bind fun b2=>(dInt .i64 c2).bind fun b3=>some ⟨b1,b2,b3⟩ | _=>none
def yqLy (x:G_net_own):List (D A):=[.str x.f_site,.int .i64 x.f_no]
def yqby (cs:List (D A)):Option (G_net_own):=match cs with | [c0,c1]=>(dStr c0).bind fun b1=>(dInt .i64 c1).bind fun b2=>some ⟨b1,b2⟩ | _=>none
def yqTy (x:G_Window):List (D A):=[.int .i64 x.f_From,.int .i64 x.f_To]
def yqFy (cs:List (D A)):Option (G_Window):=match cs with | [c0,c1]=>(dInt .i64 c0).bind fun b1=>(dInt .i64 c1).bind fun b2=>some ⟨b1,b2⟩ | _=>none
def yxoy (x:G_Segment):List (D A):=[.str x.f_Class,.int .i64 x.f_Low,.int .i64 x.f_High,.sl 3 x.f_Modes,.int .i64 x.f_Time.f_From,.int .i64 x.f_Time.f_To]
def yqdy (cs:List (D A)):Option (G_Segment):=match cs with | [c0,c1,c2,c3,c4,c5]=>(dStr c0).bind fun b1=>(dInt .i64 c1).bind fun b2=>(dInt .i64 c2).bind fun b3=>(dSl 3 c3).bind fun b4=>(dInt .i64 c4).bind fun b5=>(dInt .i64 c5).bind fun b6=>some ⟨b1,b2,b3,b4,⟨b5,b6⟩⟩ | _=>none
def yqry (x:G_Entrant):List (D A):=[.str x.f_Call,.str x.f_Category,.int .i64 x.f_Points,.str x.f_Locator]
def yqqy (cs:List (D A)):Option (G_Entrant):=match cs with | [c0,c1,c2,c3]=>(dStr c0).bind fun b1=>(dStr c1).bind fun b2=>(dInt .i64 c2).bind fun b3=>(dStr c3).bind fun b4=>some ⟨b1,b2,b3,b4⟩ | _=>none
def yjWy (x:G_Row):List (D A):=[.int .i64 x.f_From,.int .i64 x.f_To]
def ynyy (cs:List (D A)):Option (G_Row):=match cs with | [c0,c1]=>(dInt .i64 c0).bind fun b1=>(dInt .i64 c1).bind fun b2=>some ⟨b1,b2⟩ | _=>none
def yjNy (x:G_Place):List (D A):=[.int .i64 x.f_Rank,.int .i64 x.f_Points,.str x.f_Key]
def ynLy (cs:List (D A)):Option (G_Place):=match cs with | [c0,c1,c2]=>(dInt .i64 c0).bind fun b1=>(dInt .i64 c1).bind fun b2=>(dStr c2).bind fun b3=>some ⟨b1,b2,b3⟩ | _=>none
def yn1y (x:G_log_worked):List (D A):=[.str x.f_base,.str x.f_band,.int .i64 x.f_mode]
def ynzy (cs:List (D A)):Option (G_log_worked):=match cs with | [c0,c1,c2]=>(dStr c0).bind fun b1=>(dStr c1).bind fun b2=>(dInt .i64 c2).bind fun b3=>some ⟨b1,b2,b3⟩ | _=>none
def ynDy (x:G_Parts):List (D A):=[.str x.f_Base,.str x.f_Prefix,.str x.f_Suffix,.int .i64 x.f_Kind,.str x.f_Added]
def yn4y (cs:List (D A)):Option (G_Parts):=match cs with | [c0,c1,c2,c3,c4]=>(dStr c0).bind fun b1=>(dStr c1).bind fun b2=>(dStr c2).bind fun b3=>(dInt .i64 c3).bind fun b4=>(dStr c4).bind fun b5=>some ⟨b1,b2,b3,b4,b5⟩ | _=>none
def encE:(k:El)→AE k→List (D A)
 | .e3,x=>ys0y x
 | .e4,x=>yu7y x
 | .e9,x=>ytpy x
 | .e25,x=>ywKy x
 | .e26,x=>yxty x
 | .e28,x=>yp8y x
 | .e33,x=>ymLy x
 | .e35,x=>ymhy x
 | .e46,x=>yqKy x
 | .e67,x=>yqLy x
 | .e84,x=>yqTy x
 | .e86,x=>yxoy x
 | .e92,x=>yqry x
 | .e117,x=>yjWy x
 | .e125,x=>yjNy x
 | .e160,x=>yn1y x
 | .e190,x=>ynDy x
 | .no,_=>[.nilif]
def decE:(k:El)→List (D A)→Option (AE k)
 | .e3,cs=>ytxy cs
 | .e4,cs=>yuqy cs
 | .e9,cs=>ytfy cs
 | .e25,cs=>yqsy cs
 | .e26,cs=>yqcy cs
 | .e28,cs=>yqhy cs
 | .e33,cs=>yqgy cs
 | .e35,cs=>yqSy cs
 | .e46,cs=>yqGy cs
 | .e67,cs=>yqby cs
 | .e84,cs=>yqFy cs
 | .e86,cs=>yqdy cs
 | .e92,cs=>yqqy cs
 | .e117,cs=>ynyy cs
 | .e125,cs=>ynLy cs
 | .e160,cs=>ynzy cs
 | .e190,cs=>yn4y cs
 | .no,_=>none
def aggE:El→Bool
 | .e3=>false
 | .e4=>false
 | .e9=>false
 | .e25=>true
 | .e26=>false
 | .e28=>false
 | .e33=>true
 | .e35=>true
 | .e46=>true
 | .e67=>true
 | .e84=>true
 | .e86=>true
 | .e92=>true
 | .e117=>true
 | .e125=>true
 | .e160=>true
 | .e190=>true
 | .no=>false
def T:Ty A where
 size:=fun e=>sizeE (el e)
 enc:=fun e x=>encE (el e) x
 dec:=fun e cs=>decE (el e) cs
 agg:=fun e=>aggE (el e)
theorem lenE:∀ k x,(encE k x).length = sizeE k:=by intro k x; cases k <;> rfl
theorem posE:∀ k,0 < sizeE k:=by intro k; cases k <;> decide
theorem yIfy {U:Ty A} {cs:List (D A)} {x:Int} (h:ytxy cs = some x):OkL U cs (ys0y x):=by
 unfold ytxy at h
 split at h
 ·simp only [Option.bind_eq_some_iff] at h
  obtain ⟨b1,h1,hx⟩:=h
  obtain rfl:=Option.some.inj hx
  exact (.cons (gInt h1) .nil)
 ·cases h
theorem yIiy (x:Int):(ys0y x).all D.plain = true:=rfl
theorem yIwy {U:Ty A} {cs:List (D A)} {x:Bool} (h:yuqy cs = some x):OkL U cs (yu7y x):=by
 unfold yuqy at h
 split at h
 ·simp only [Option.bind_eq_some_iff] at h
  obtain ⟨b1,h1,hx⟩:=h
  obtain rfl:=Option.some.inj hx
  exact (.cons (gBool h1) .nil)
 ·cases h
theorem yJky (x:Bool):(yu7y x).all D.plain = true:=rfl
theorem yJly {U:Ty A} {cs:List (D A)} {x:List UInt8} (h:ytfy cs = some x):OkL U cs (ytpy x):=by
 unfold ytfy at h
 split at h
 ·simp only [Option.bind_eq_some_iff] at h
  obtain ⟨b1,h1,hx⟩:=h
  obtain rfl:=Option.some.inj hx
  exact (.cons (gStr h1) .nil)
 ·cases h
theorem yH7y (x:List UInt8):(ytpy x).all D.plain = true:=rfl
theorem yE0y {U:Ty A} {cs:List (D A)} {x:G_Stream} (h:yqsy cs = some x):OkL U cs (ywKy x):=by
 unfold yqsy at h
 split at h
 ·simp only [Option.bind_eq_some_iff] at h
  obtain ⟨b1,h1,b2,h2,hx⟩:=h
  obtain rfl:=Option.some.inj hx
  exact (.cons (gSl h1) (.cons (gInt h2) .nil))
 ·cases h
theorem yHNy {U:Ty A} {cs:List (D A)} {x:List G_Deed} (h:yqcy cs = some x):OkL U cs (yxty x):=by
 unfold yqcy at h
 split at h
 ·simp only [Option.bind_eq_some_iff] at h
  obtain ⟨b1,h1,hx⟩:=h
  obtain rfl:=Option.some.inj hx
  exact (.cons (gSl h1) .nil)
 ·cases h
theorem yG6y {U:Ty A} {cs:List (D A)} {x:Int} (h:yqhy cs = some x):OkL U cs (yp8y x):=by
 unfold yqhy at h
 split at h
 ·simp only [Option.bind_eq_some_iff] at h
  obtain ⟨b1,h1,hx⟩:=h
  obtain rfl:=Option.some.inj hx
  exact (.cons (gInt h1) .nil)
 ·cases h
theorem yExy (x:Int):(yp8y x).all D.plain = true:=rfl
theorem yEky {U:Ty A} {cs:List (D A)} {x:G_Contact} (h:yqgy cs = some x):OkL U cs (ymLy x):=by
 unfold yqgy at h
 split at h
 ·simp only [Option.bind_eq_some_iff] at h
  obtain ⟨b1,h1,b2,h2,b3,h3,b4,h4,b5,h5,b6,h6,b7,h7,b8,h8,hx⟩:=h
  obtain rfl:=Option.some.inj hx
  exact (.cons (gInt h1) (.cons (gInt h2) (.cons (gStr h3) (.cons (gStr h4) (.cons (gInt h5) (.cons (gInt h6) (.cons (gStr h7) (.cons (gStr h8) .nil))))))))
 ·cases h
theorem yEey (x:G_Contact):(ymLy x).all D.plain = true:=rfl
theorem yE1y {U:Ty A} {cs:List (D A)} {x:G_Deed} (h:yqSy cs = some x):OkL U cs (ymhy x):=by
 unfold yqSy at h
 split at h
 ·simp only [Option.bind_eq_some_iff] at h
  obtain ⟨b1,h1,b2,h2,b3,h3,b4,h4,b5,h5,b6,h6,b7,h7,b8,h8,b9,h9,b10,h10,b11,h11,b12,h12,b13,h13,b14,h14,b15,h15,hx⟩:=h
  obtain rfl:=Option.some.inj hx
  exact (.cons (gStr h1) (.cons (gInt h2) (.cons (gInt h3) (.cons (gInt h4) (.cons (gInt h5) (.cons (gInt h6) (.cons (gStr h7) (.cons (gStr h8) (.cons (gInt h9) (.cons (gInt h10) (.cons (gStr h11) (.cons (gStr h12) (.cons (gStr h13) (.cons (gStr h14) (.cons (gInt h15) .nil)))))))))))))))
 ·cases h
theorem yFBy (x:G_Deed):(ymhy x).all D.plain = true:=rfl
theorem yHRy {U:Ty A} {cs:List (D A)} {x:G_Desk} (h:yqGy cs = some x):OkL U cs (yqKy x):=by
 unfold yqGy at h
 split at h
 ·simp only [Option.bind_eq_some_iff] at h
  obtain ⟨b1,h1,b2,h2,b3,h3,hx⟩:=h
  obtain rfl:=Option.some.inj hx
  exact (.cons (gStr h1) (.cons (gStr h2) (.cons (gInt h3) .nil)))
 ·cases h
theorem yFEy (x:G_Desk):(yqKy x).all D.plain = true:=rfl
theorem yFgy {U:Ty A} {cs:List (D A)} {x:G_net_own} (h:yqby cs = some x):OkL U cs (yqLy x):=by
 unfold yqby at h
 split at h
 ·simp only [Option.bind_eq_some_iff] at h
  obtain ⟨b1,h1,b2,h2,hx⟩:=h
  obtain rfl:=Option.some.inj hx
  exact (.cons (gStr h1) (.cons (gInt h2) .nil))
 ·cases h
theorem yFfy (x:G_net_own):(yqLy x).all D.plain = true:=rfl
theorem yD1y {U:Ty A} {cs:List (D A)} {x:G_Window} (h:yqFy cs = some x):OkL U cs (yqTy x):=by
 unfold yqFy at h
 split at h
 ·simp only [Option.bind_eq_some_iff] at h
  obtain ⟨b1,h1,b2,h2,hx⟩:=h
  obtain rfl:=Option.some.inj hx
  exact (.cons (gInt h1) (.cons (gInt h2) .nil))
 ·cases h
theorem yEYy (x:G_Window):(yqTy x).all D.plain = true:=rfl
theorem yD3y {U:Ty A} {cs:List (D A)} {x:G_Segment} (h:yqdy cs = some x):OkL U cs (yxoy x):=by
 unfold yqdy at h
 split at h
 ·simp only [Option.bind_eq_some_iff] at h
  obtain ⟨b1,h1,b2,h2,b3,h3,b4,h4,b5,h5,b6,h6,hx⟩:=h
  obtain rfl:=Option.some.inj hx
  exact (.cons (gStr h1) (.cons (gInt h2) (.cons (gInt h3) (.cons (gSl h4) (.cons (gInt h5) (.cons (gInt h6) .nil))))))
 ·cases h
theorem yEby {U:Ty A} {cs:List (D A)} {x:G_Entrant} (h:yqqy cs = some x):OkL U cs (yqry x):=by
 unfold yqqy at h
 split at h
 ·simp only [Option.bind_eq_some_iff] at h
  obtain ⟨b1,h1,b2,h2,b3,h3,b4,h4,hx⟩:=h
  obtain rfl:=Option.some.inj hx
  exact (.cons (gStr h1) (.cons (gStr h2) (.cons (gInt h3) (.cons (gStr h4) .nil))))
 ·cases h
theorem yFTy (x:G_Entrant):(yqry x).all D.plain = true:=rfl
theorem yDjy {U:Ty A} {cs:List (D A)} {x:G_Row} (h:ynyy cs = some x):OkL U cs (yjWy x):=by
 unfold ynyy at h
 split at h
 ·simp only [Option.bind_eq_some_iff] at h
  obtain ⟨b1,h1,b2,h2,hx⟩:=h
  obtain rfl:=Option.some.inj hx
  exact (.cons (gInt h1) (.cons (gInt h2) .nil))
 ·cases h
theorem yDey (x:G_Row):(yjWy x).all D.plain = true:=rfl
theorem yDly {U:Ty A} {cs:List (D A)} {x:G_Place} (h:ynLy cs = some x):OkL U cs (yjNy x):=by
 unfold ynLy at h
 split at h
 ·simp only [Option.bind_eq_some_iff] at h
  obtain ⟨b1,h1,b2,h2,b3,h3,hx⟩:=h
  obtain rfl:=Option.some.inj hx
  exact (.cons (gInt h1) (.cons (gInt h2) (.cons (gStr h3) .nil)))
 ·cases h
theorem yCky (x:G_Place):(yjNy x).all D.plain = true:=rfl
theorem yDOy {U:Ty A} {cs:List (D A)} {x:G_log_worked} (h:ynzy cs = some x):OkL U cs (yn1y x):=by
 unfold ynzy at h
 split at h
 ·simp only [Option.bind_eq_some_iff] at h
  obtain ⟨b1,h1,b2,h2,b3,h3,hx⟩:=h
  obtain rfl:=Option.some.inj hx
  exact (.cons (gStr h1) (.cons (gStr h2) (.cons (gInt h3) .nil)))
 ·cases h
theorem yC2y (x:G_log_worked):(yn1y x).all D.plain = true:=rfl
theorem yCfy {U:Ty A} {cs:List (D A)} {x:G_Parts} (h:yn4y cs = some x):OkL U cs (ynDy x):=by
 unfold yn4y at h
 split at h
 ·simp only [Option.bind_eq_some_iff] at h
  obtain ⟨b1,h1,b2,h2,b3,h3,b4,h4,b5,h5,hx⟩:=h
  obtain rfl:=Option.some.inj hx
  exact (.cons (gStr h1) (.cons (gStr h2) (.cons (gStr h3) (.cons (gInt h4) (.cons (gStr h5) .nil)))))
 ·cases h
theorem yDIy (x:G_Parts):(ynDy x).all D.plain = true:=rfl
def TD:Ty A:=T.day
theorem decOk {U:Ty A}:∀ k cs x,decE k cs = some x→OkL U cs (encE k x):=by
 intro k cs x h
 cases k
 case e3=>exact yIfy h
 case e4=>exact yIwy h
 case e9=>exact yJly h
 case e25=>exact yE0y h
 case e26=>exact yHNy h
 case e28=>exact yG6y h
 case e33=>exact yEky h
 case e35=>exact yE1y h
 case e46=>exact yHRy h
 case e67=>exact yFgy h
 case e84=>exact yD1y h
 case e86=>exact yD3y h
 case e92=>exact yEby h
 case e117=>exact yDjy h
 case e125=>exact yDly h
 case e160=>exact yDOy h
 case e190=>exact yCfy h
 case no=>cases h
theorem tyOkD (P:Program):TyOk P TD:=⟨fun e x=>lenE (el e) x,fun e=>posE (el e),fun e cs x h=>by
 obtain ⟨h1,h2⟩:=decOk (U:=TD) (el e) cs x h
 exact ⟨h1.trans (lenE (el e) x),h2⟩⟩
theorem tyOk (P:Program):TyOk P T:=⟨fun e x=>lenE (el e) x,fun e=>posE (el e),fun e cs x h=>by
 obtain ⟨h1,h2⟩:=decOk (el e) cs x h
 exact ⟨h1.trans (lenE (el e) x),h2⟩⟩
def flatE:El→Bool
 | .e3=>true
 | .e4=>true
 | .e9=>true
 | .e25=>false
 | .e26=>false
 | .e28=>true
 | .e33=>true
 | .e35=>true
 | .e46=>true
 | .e67=>true
 | .e84=>true
 | .e86=>false
 | .e92=>true
 | .e117=>true
 | .e125=>true
 | .e160=>true
 | .e190=>true
 | .no=>false
def flatT (e:Nat):Bool:=flatE (el e)
theorem ywMy:∀ k,flatE k = true→∀ x d,d ∈ encE k x→D.plain d = true:=by
 intro k h x d hd
 cases k
 case e3=>exact List.all_eq_true.1 (yIiy x) d hd
 case e4=>exact List.all_eq_true.1 (yJky x) d hd
 case e9=>exact List.all_eq_true.1 (yH7y x) d hd
 case e25=>cases h
 case e26=>cases h
 case e28=>exact List.all_eq_true.1 (yExy x) d hd
 case e33=>exact List.all_eq_true.1 (yEey x) d hd
 case e35=>exact List.all_eq_true.1 (yFBy x) d hd
 case e46=>exact List.all_eq_true.1 (yFEy x) d hd
 case e67=>exact List.all_eq_true.1 (yFfy x) d hd
 case e84=>exact List.all_eq_true.1 (yEYy x) d hd
 case e86=>cases h
 case e92=>exact List.all_eq_true.1 (yFTy x) d hd
 case e117=>exact List.all_eq_true.1 (yDey x) d hd
 case e125=>exact List.all_eq_true.1 (yCky x) d hd
 case e160=>exact List.all_eq_true.1 (yC2y x) d hd
 case e190=>exact List.all_eq_true.1 (yDIy x) d hd
 case no=>cases h
def ycWy (x y:G_Contact):Bool:=(x.f_At == y.f_At && (x.f_Mode == y.f_Mode && (x.f_Band == y.f_Band && (x.f_Call == y.f_Call && (x.f_Sent == y.f_Sent && (x.f_Heard == y.f_Heard && (x.f_Gave == y.f_Gave && (x.f_Got == y.f_Got && true))))))))
def yaUy (x y:G_Deed):Bool:=(x.f_Site == y.f_Site && (x.f_No == y.f_No && (x.f_At == y.f_At && (x.f_Kind == y.f_Kind && ((x.f_Contact.f_At == y.f_Contact.f_At && (x.f_Contact.f_Mode == y.f_Contact.f_Mode && (x.f_Contact.f_Band == y.f_Contact.f_Band && (x.f_Contact.f_Call == y.f_Contact.f_Call && (x.f_Contact.f_Sent == y.f_Contact.f_Sent && (x.f_Contact.f_Heard == y.f_Contact.f_Heard && (x.f_Contact.f_Gave == y.f_Contact.f_Gave && (x.f_Contact.f_Got == y.f_Contact.f_Got && true)))))))) && (x.f_Band == y.f_Band && (x.f_Of == y.f_Of && (x.f_Other == y.f_Other && true))))))))
def ybQy (x:Int) (m:List (Int×Int)):Option Int:=getM T 3 3 x m
def ygYy (x:Int) (m:List (Int×Int)):List (Int×Int):=delM T 3 3 x m
def ycYy (x:Int) (y:Int) (m:List (Int×Int)):List (Int×Int):=setM T 3 3 x y m
def yqDy (x y:Int):Bool:=(x == y && true)
theorem mget_int_int_nil (x:Int):ybQy x [] = none:=by kernel_rfl
theorem mget_int_int_cons (x:Int) (p:Int×Int) (m:List (Int×Int)):ybQy x (p :: m) = bif yqDy x p.1 then some p.2 else ybQy x m:=by kernel_rfl
theorem mdel_int_int_nil (x:Int):ygYy x [] = []:=by kernel_rfl
theorem mdel_int_int_cons (x:Int) (p:Int×Int) (m:List (Int×Int)):ygYy x (p :: m) = bif yqDy x p.1 then m else p :: ygYy x m:=by kernel_rfl
theorem mset_int_int_nil (x:Int) (y:Int):ycYy x y [] = [(x,y)]:=by kernel_rfl
theorem mset_int_int_cons (x:Int) (y:Int) (p:Int×Int) (m:List (Int×Int)):ycYy x y (p :: m) = bif yqDy x p.1 then (x,y) :: m else p :: ycYy x y m:=by kernel_rfl
def yaay (x:List UInt8) (m:List (List UInt8×Int)):Option Int:=getM T 9 3 x m
def ye1y (x:List UInt8) (m:List (List UInt8×Int)):List (List UInt8×Int):=delM T 9 3 x m
def yaby (x:List UInt8) (y:Int) (m:List (List UInt8×Int)):List (List UInt8×Int):=setM T 9 3 x y m
def ya5y (x y:List UInt8):Bool:=(x == y && true)
theorem mget_string_int_nil (x:List UInt8):yaay x [] = none:=by kernel_rfl
theorem mget_string_int_cons (x:List UInt8) (p:List UInt8×Int) (m:List (List UInt8×Int)):yaay x (p :: m) = bif ya5y x p.1 then some p.2 else yaay x m:=by kernel_rfl
theorem mdel_string_int_nil (x:List UInt8):ye1y x [] = []:=by kernel_rfl
theorem mdel_string_int_cons (x:List UInt8) (p:List UInt8×Int) (m:List (List UInt8×Int)):ye1y x (p :: m) = bif ya5y x p.1 then m else p :: ye1y x m:=by kernel_rfl
theorem mset_string_int_nil (x:List UInt8) (y:Int):yaby x y [] = [(x,y)]:=by kernel_rfl
theorem mset_string_int_cons (x:List UInt8) (y:Int) (p:List UInt8×Int) (m:List (List UInt8×Int)):yaby x y (p :: m) = bif ya5y x p.1 then (x,y) :: m else p :: yaby x y m:=by kernel_rfl
def ydYy (x:List UInt8) (m:List (List UInt8×Bool)):Option Bool:=getM T 9 4 x m
def ydRy (x:List UInt8) (m:List (List UInt8×Bool)):List (List UInt8×Bool):=delM T 9 4 x m
def ybiy (x:List UInt8) (y:Bool) (m:List (List UInt8×Bool)):List (List UInt8×Bool):=setM T 9 4 x y m
theorem mget_string_bool_nil (x:List UInt8):ydYy x [] = none:=by kernel_rfl
theorem mget_string_bool_cons (x:List UInt8) (p:List UInt8×Bool) (m:List (List UInt8×Bool)):ydYy x (p :: m) = bif ya5y x p.1 then some p.2 else ydYy x m:=by kernel_rfl
theorem mdel_string_bool_nil (x:List UInt8):ydRy x [] = []:=by kernel_rfl
theorem mdel_string_bool_cons (x:List UInt8) (p:List UInt8×Bool) (m:List (List UInt8×Bool)):ydRy x (p :: m) = bif ya5y x p.1 then m else p :: ydRy x m:=by kernel_rfl
theorem mset_string_bool_nil (x:List UInt8) (y:Bool):ybiy x y [] = [(x,y)]:=by kernel_rfl
theorem mset_string_bool_cons (x:List UInt8) (y:Bool) (p:List UInt8×Bool) (m:List (List UInt8×Bool)):ybiy x y (p :: m) = bif ya5y x p.1 then (x,y) :: m else p :: ybiy x y m:=by kernel_rfl
def yany (x:G_Contact) (m:List (G_Contact×G_Deed)):Option G_Deed:=getM T 33 35 x m
def ydny (x:G_Contact) (m:List (G_Contact×G_Deed)):List (G_Contact×G_Deed):=delM T 33 35 x m
def yaQy (x:G_Contact) (y:G_Deed) (m:List (G_Contact×G_Deed)):List (G_Contact×G_Deed):=setM T 33 35 x y m
def yh3y (x y:G_Contact):Bool:=(x.f_At == y.f_At && (x.f_Mode == y.f_Mode && (x.f_Band == y.f_Band && (x.f_Call == y.f_Call && (x.f_Sent == y.f_Sent && (x.f_Heard == y.f_Heard && (x.f_Gave == y.f_Gave && (x.f_Got == y.f_Got && true))))))))
theorem mget_Contact_Deed_nil (x:G_Contact):yany x [] = none:=by kernel_rfl
theorem mget_Contact_Deed_cons (x:G_Contact) (p:G_Contact×G_Deed) (m:List (G_Contact×G_Deed)):yany x (p :: m) = bif yh3y x p.1 then some p.2 else yany x m:=by kernel_rfl
theorem mdel_Contact_Deed_nil (x:G_Contact):ydny x [] = []:=by kernel_rfl
theorem mdel_Contact_Deed_cons (x:G_Contact) (p:G_Contact×G_Deed) (m:List (G_Contact×G_Deed)):ydny x (p :: m) = bif yh3y x p.1 then m else p :: ydny x m:=by kernel_rfl
theorem mset_Contact_Deed_nil (x:G_Contact) (y:G_Deed):yaQy x y [] = [(x,y)]:=by kernel_rfl
theorem mset_Contact_Deed_cons (x:G_Contact) (y:G_Deed) (p:G_Contact×G_Deed) (m:List (G_Contact×G_Deed)):yaQy x y (p :: m) = bif yh3y x p.1 then (x,y) :: m else p :: yaQy x y m:=by kernel_rfl
def ya0y (x:G_net_own) (m:List (G_net_own×Bool)):Option Bool:=getM T 67 4 x m
def yaCy (x:G_net_own) (m:List (G_net_own×Bool)):List (G_net_own×Bool):=delM T 67 4 x m
def yaEy (x:G_net_own) (y:Bool) (m:List (G_net_own×Bool)):List (G_net_own×Bool):=setM T 67 4 x y m
def ycEy (x y:G_net_own):Bool:=(x.f_site == y.f_site && (x.f_no == y.f_no && true))
theorem mget_net_own_bool_nil (x:G_net_own):ya0y x [] = none:=by kernel_rfl
theorem mget_net_own_bool_cons (x:G_net_own) (p:G_net_own×Bool) (m:List (G_net_own×Bool)):ya0y x (p :: m) = bif ycEy x p.1 then some p.2 else ya0y x m:=by kernel_rfl
theorem mdel_net_own_bool_nil (x:G_net_own):yaCy x [] = []:=by kernel_rfl
theorem mdel_net_own_bool_cons (x:G_net_own) (p:G_net_own×Bool) (m:List (G_net_own×Bool)):yaCy x (p :: m) = bif ycEy x p.1 then m else p :: yaCy x m:=by kernel_rfl
theorem mset_net_own_bool_nil (x:G_net_own) (y:Bool):yaEy x y [] = [(x,y)]:=by kernel_rfl
theorem mset_net_own_bool_cons (x:G_net_own) (y:Bool) (p:G_net_own×Bool) (m:List (G_net_own×Bool)):yaEy x y (p :: m) = bif ycEy x p.1 then (x,y) :: m else p :: yaEy x y m:=by kernel_rfl
def yaly (x:G_net_own) (m:List (G_net_own×G_Deed)):Option G_Deed:=getM T 67 35 x m
def ydpy (x:G_net_own) (m:List (G_net_own×G_Deed)):List (G_net_own×G_Deed):=delM T 67 35 x m
def ybKy (x:G_net_own) (y:G_Deed) (m:List (G_net_own×G_Deed)):List (G_net_own×G_Deed):=setM T 67 35 x y m
theorem mget_net_own_Deed_nil (x:G_net_own):yaly x [] = none:=by kernel_rfl
theorem mget_net_own_Deed_cons (x:G_net_own) (p:G_net_own×G_Deed) (m:List (G_net_own×G_Deed)):yaly x (p :: m) = bif ycEy x p.1 then some p.2 else yaly x m:=by kernel_rfl
theorem mdel_net_own_Deed_nil (x:G_net_own):ydpy x [] = []:=by kernel_rfl
theorem mdel_net_own_Deed_cons (x:G_net_own) (p:G_net_own×G_Deed) (m:List (G_net_own×G_Deed)):ydpy x (p :: m) = bif ycEy x p.1 then m else p :: ydpy x m:=by kernel_rfl
theorem mset_net_own_Deed_nil (x:G_net_own) (y:G_Deed):ybKy x y [] = [(x,y)]:=by kernel_rfl
theorem mset_net_own_Deed_cons (x:G_net_own) (y:G_Deed) (p:G_net_own×G_Deed) (m:List (G_net_own×G_Deed)):ybKy x y (p :: m) = bif ycEy x p.1 then (x,y) :: m else p :: ybKy x y m:=by kernel_rfl
def ybLy (x:G_log_worked) (m:List (G_log_worked×Bool)):Option Bool:=getM T 160 4 x m
def ycqy (x:G_log_worked) (m:List (G_log_worked×Bool)):List (G_log_worked×Bool):=delM T 160 4 x m
def ybsy (x:G_log_worked) (y:Bool) (m:List (G_log_worked×Bool)):List (G_log_worked×Bool):=setM T 160 4 x y m
def yfCy (x y:G_log_worked):Bool:=(x.f_base == y.f_base && (x.f_band == y.f_band && (x.f_mode == y.f_mode && true)))
theorem mget_log_worked_bool_nil (x:G_log_worked):ybLy x [] = none:=by kernel_rfl
theorem mget_log_worked_bool_cons (x:G_log_worked) (p:G_log_worked×Bool) (m:List (G_log_worked×Bool)):ybLy x (p :: m) = bif yfCy x p.1 then some p.2 else ybLy x m:=by kernel_rfl
theorem mdel_log_worked_bool_nil (x:G_log_worked):ycqy x [] = []:=by kernel_rfl
theorem mdel_log_worked_bool_cons (x:G_log_worked) (p:G_log_worked×Bool) (m:List (G_log_worked×Bool)):ycqy x (p :: m) = bif yfCy x p.1 then m else p :: ycqy x m:=by kernel_rfl
theorem mset_log_worked_bool_nil (x:G_log_worked) (y:Bool):ybsy x y [] = [(x,y)]:=by kernel_rfl
theorem mset_log_worked_bool_cons (x:G_log_worked) (y:Bool) (p:G_log_worked×Bool) (m:List (G_log_worked×Bool)):ybsy x y (p :: m) = bif yfCy x p.1 then (x,y) :: m else p :: ybsy x y m:=by kernel_rfl
theorem ko_3x (x p:Int):eqT Tryz.prog 64 3 (yaIy T 3 x) (yaIy T 3 p) = some ((x:Int) == (p:Int)):=by kernel_rfl
theorem ko_3y (x p:Int):some (eqDs (T.enc 3 x) (T.enc 3 p)) = some ((x == p) && true):=by kernel_rfl
theorem ko_3z (x p:Int):eqT Tryz.prog 64 3 (yaIy T 3 x) (yaIy T 3 p) = some (eqDs (T.enc 3 x) (T.enc 3 p)):=(ko_3x x p).trans (((congrArg some (Bool.and_true (x == p))).symm).trans (ko_3y x p).symm)
theorem ko_3:KeyOk Tryz.prog T 3:=fun x p=>ko_3z x p
theorem kd_3:∃ kd,Tryz.prog.underlying 3 = some kd:=Option.isSome_iff_exists.1 (by kernel_rfl)
theorem ko_9x (x p:List UInt8):eqT Tryz.prog 64 9 (yaIy T 9 x) (yaIy T 9 p) = some ((x:List UInt8) == (p:List UInt8)):=by kernel_rfl
theorem ko_9y (x p:List UInt8):some (eqDs (T.enc 9 x) (T.enc 9 p)) = some ((x == p) && true):=by kernel_rfl
theorem ko_9z (x p:List UInt8):eqT Tryz.prog 64 9 (yaIy T 9 x) (yaIy T 9 p) = some (eqDs (T.enc 9 x) (T.enc 9 p)):=(ko_9x x p).trans (((congrArg some (Bool.and_true (x == p))).symm).trans (ko_9y x p).symm)
theorem ko_9:KeyOk Tryz.prog T 9:=fun x p=>ko_9z x p
theorem kd_9:∃ kd,Tryz.prog.underlying 9 = some kd:=Option.isSome_iff_exists.1 (by kernel_rfl)
theorem yIIy (x p:G_Contact):eqT Tryz.prog 64 33 (yaIy T 33 x) (yaIy T 33 p) = some (eqDs (T.enc 33 x) (T.enc 33 p)):=by kernel_rfl
theorem ko_33:KeyOk Tryz.prog T 33:=by
 intro x p
 exact yIIy x p
theorem kd_33:∃ kd,Tryz.prog.underlying 33 = some kd:=Option.isSome_iff_exists.1 (by kernel_rfl)
theorem yIRy (x p:G_net_own):eqT Tryz.prog 64 67 (yaIy T 67 x) (yaIy T 67 p) = some (eqDs (T.enc 67 x) (T.enc 67 p)):=by kernel_rfl
theorem ko_67:KeyOk Tryz.prog T 67:=by
 intro x p
 exact yIRy x p
theorem kd_67:∃ kd,Tryz.prog.underlying 67 = some kd:=Option.isSome_iff_exists.1 (by kernel_rfl)
theorem yD7y (x p:G_log_worked):eqT Tryz.prog 64 160 (yaIy T 160 x) (yaIy T 160 p) = some (eqDs (T.enc 160 x) (T.enc 160 p)):=by kernel_rfl
theorem yI6y:KeyOk Tryz.prog T 160:=by
 intro x p
 exact yD7y x p
theorem yJqy:∃ kd,Tryz.prog.underlying 160 = some kd:=Option.isSome_iff_exists.1 (by kernel_rfl)
def keyT (k:Nat):Bool:=k == 3 || k == 9 || k == 33 || k == 67 || k == 160
theorem yzXy:∀ k,keyT k = true→KeyOk Tryz.prog T k∧∃ kd,Tryz.prog.underlying k = some kd:=by
 intro k h
 simp only [keyT,Bool.or_eq_true,beq_iff_eq] at h
 rcases h with (((rfl | rfl) | rfl) | rfl) | rfl
 ·exact ⟨ko_3,kd_3⟩
 ·exact ⟨ko_9,kd_9⟩
 ·exact ⟨ko_33,kd_33⟩
 ·exact ⟨ko_67,kd_67⟩
 ·exact ⟨yI6y,yJqy⟩
theorem yI2y:ydAy T flatT:=fun e h x d hd=>ywMy (el e) h x d hd
theorem yF4y:SpOk Tryz.prog T 108 (.wrap 140 true):=yG7y (M:=150) (yaHy (fn:=Tryz.f108) Tryz.func108 (by kernel_rfl) (by kernel_rfl)) fun mb w=>(callsIn_wide (n:=5)).1 (Go.Proofs.AnyZ.keys_in Tryz.keys108 Fence.wide 5 trivial rfl mb w)
def srtK9:List (List UInt8)→Option (List (List UInt8)):=ordS (A:=A) (k:=9) (fun x=>x) (fun x=>x)
theorem yA9y (m:Nat):Go.Proofs.AnyZ.SortsIn Tryz.prog Tryz.sorted107_ren Fence.wide m :=
 ⟨fun blk off cap ss W hH hblk hsz=>callsIn_wide.2 (Go.Proofs.AnyM.slices_Sort_string Tryz.sort139 blk off cap ss W hH hblk hsz),fun p cap W=>callsIn_wide.2 (Go.Proofs.AnyM.slices_Sort_string_none Tryz.sort139 p cap W)⟩
theorem yzly:yAky Tryz.prog 9 107 140:=fun b nn B D0 R w hown hmax hbytes hm hB =>
 (callsIn_wide (n:=5)).1 (Go.Proofs.AnyZ.sorted_in Tryz.sorted107 Fence.wide 5 trivial trivial trivial trivial rfl (by omega) (yA9y _) (yaHy Tryz.func139 (by kernel_rfl) rfl) 140 #[.pointer (some ⟨B,0,none⟩)] trivial (yaHy Tryz.func140 (by kernel_rfl) rfl) _ _ hmax hbytes _
  (Go.Proofs.AnyZ.keys_gives (ρ:=Tryz.keys108_ren) { Tryz.keys108 with } Fence.wide _ trivial rfl (by omega) B b nn D0 _ hB hm hown))
theorem yHPy:SpOk Tryz.prog T 107 (.keys [140] 9 srtK9):=yIey (A:=A) (T:=T) (k:=9) rfl (fun x=>x) (fun x=>x) (fun _=>rfl) (fun _=>rfl) rfl rfl Tryz.underlying9 (yaHy (fn:=Tryz.f107) Tryz.func107 (by kernel_rfl) (by kernel_rfl)) (by intro q hq; rw [List.mem_singleton] at hq; subst hq <;> first | exact yzly)
def spT:List (Nat×Sp A):=[(107,.keys [140] 9 srtK9),(108,.wrap 140 true)]
theorem spAll:SpAll Tryz.prog T spT:=.cons yHPy (.cons yF4y (.nil))
theorem std:Std Tryz.prog T keyT flatT (fun f=>spT.lookup f):=⟨tyOk Tryz.prog,yI2y,yzXy,spAll.ok,by kernel_rfl⟩
abbrev Ok (f:Nat) (S:Spec A):Prop:=OkF Tryz.prog T f S
theorem stdD:Std Tryz.prog TD keyT flatT (fun _=>none):=⟨tyOkD Tryz.prog,fun e h x d hd=>ywMy (el e) h x d hd,yzXy,fun _ _ h=>(by cases h),by kernel_rfl⟩
abbrev OkD (f:Nat) (S:Spec A):Prop:=OkF Tryz.prog TD f S
noncomputable def mkE (C:List (Nat×Spec A)) (tg:List (Nat×List Nat)) (lh xh:List (Nat×Hint)) (cl:List (Nat×Piece A)) (sh xs:List (Nat×Hint)) (cs:List (Nat×Piece A)) (md:List (Nat×Nat)) (pin:List Nat):Env A :=
 { P:=Tryz.prog,T:=T,C:=fun f=>C.lookup f,tg:=fun d=>(tg.lookup d).getD [],seqH:=fun i=>sh.lookup i,loopH:=fun i=>lh.lookup i,exitH:=fun i=>xh.lookup i,exitS:=fun i=>xs.lookup i,cutS:=fun i=>cs.lookup i,cutL:=fun i=>cl.lookup i,mode:=fun f i=>md.contains (f,i),sp:=fun f=>spT.lookup f,keyed:=keyT,flat:=flatT,pin:=pin }
noncomputable def mkED (C:List (Nat×Spec A)) (tg:List (Nat×List Nat)) (lh xh:List (Nat×Hint)) (cl:List (Nat×Piece A)) (sh xs:List (Nat×Hint)) (cs:List (Nat×Piece A)) (md:List (Nat×Nat)) (pin:List Nat):Env A :=
 { P:=Tryz.prog,T:=TD,C:=fun f=>C.lookup f,tg:=fun d=>(tg.lookup d).getD [],seqH:=fun i=>sh.lookup i,loopH:=fun i=>lh.lookup i,exitH:=fun i=>xh.lookup i,exitS:=fun i=>xs.lookup i,cutS:=fun i=>cs.lookup i,cutL:=fun i=>cl.lookup i,mode:=fun f i=>md.contains (f,i),keyed:=keyT,flat:=flatT,pin:=pin }
end Go.Am
