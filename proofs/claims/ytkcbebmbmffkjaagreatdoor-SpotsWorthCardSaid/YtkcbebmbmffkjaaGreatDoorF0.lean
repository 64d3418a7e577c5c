/- The functions of the program as Lean functions, each shown to be what the code computes, part 0. No condition: lemmas for the claim. -/
import Derived.Test.YtkcbebmbmffkjaaGreatDoorAmPrint
import Derived.Test.YtkcbebmbmffkjaaGreatDoorAmIn
import Derived.Test.YtkcbebmbmffkjaaGreatDoorProg
import Derived.KernelRfl
set_option linter.unusedVariables false
set_option maxRecDepth 100000
namespace Go.Am
open Go Go.Proofs
structure G_Stream where
 f_L:List Int
 f_at:Int
 deriving DecidableEq
structure G_Spot where
 f_At:Int
 f_Hertz:Int
 f_Call:List UInt8
 f_By:List UInt8
 deriving DecidableEq
structure G_Band where
 f_Key:List UInt8
 f_Low:Int
 f_High:Int
 deriving DecidableEq
structure G_Contact where
 f_At:Int
 f_Mode:Int
 f_Band:List UInt8
 f_Call:List UInt8
 f_Sent:Int
 f_Heard:Int
 f_Gave:List UInt8
 f_Got:List UInt8
 deriving DecidableEq
structure G_band_worked where
 f_base:List UInt8
 f_band:List UInt8
 deriving DecidableEq
structure G_Window where
 f_From:Int
 f_To:Int
 deriving DecidableEq
structure G_Segment where
 f_Class:List UInt8
 f_Low:Int
 f_High:Int
 f_Modes:List Int
 f_Time:G_Window
 deriving DecidableEq
structure G_Parts where
 f_Base:List UInt8
 f_Prefix:List UInt8
 f_Suffix:List UInt8
 f_Kind:Int
 f_Added:List UInt8
 deriving DecidableEq
structure G_band_onBand where
 f_call:List UInt8
 f_band:Int
 deriving DecidableEq
structure G_Row where
 f_From:Int
 f_To:Int
 deriving DecidableEq
inductive El where
 | e3 | e4 | e9 | e25 | e35 | e52 | e69 | e77 | e88 | e108 | e110 | e126 | e135 | e144 | no
def el:Nat→El
 | 3=>.e3
 | 4=>.e4
 | 9=>.e9
 | 25=>.e25
 | 35=>.e35
 | 52=>.e52
 | 69=>.e69
 | 77=>.e77
 | 88=>.e88
 | 108=>.e108
 | 110=>.e110
 | 126=>.e126
 | 135=>.e135
 | 144=>.e144
 | _=>.no
def AE:El→Type
 | .e3=>Int
 | .e4=>Bool
 | .e9=>List UInt8
 | .e25=>G_Stream
 | .e35=>Int
 | .e52=>G_Spot
 | .e69=>G_Band
 | .e77=>G_Contact
 | .e88=>G_band_worked
 | .e108=>G_Window
 | .e110=>G_Segment
 | .e126=>G_Parts
 | .e135=>G_band_onBand
 | .e144=>G_Row
 | .no=>Unit
abbrev A (e:Nat):Type:=AE (el e)
def sizeE:El→Nat
 | .e3=>1
 | .e4=>1
 | .e9=>1
 | .e25=>2
 | .e35=>1
 | .e52=>4
 | .e69=>3
 | .e77=>8
 | .e88=>2
 | .e108=>2
 | .e110=>6
 | .e126=>5
 | .e135=>2
 | .e144=>2
 | .no=>1
def yxPy (x:Int):List (D A):=[.int .i64 x]
def yyty (cs:List (D A)):Option (Int):=match cs with | [c0]=>(dInt .i64 c0).bind fun b1=>some b1 | _=>none
def yw5y (x:Bool):List (D A):=[.bool x]
def yAby (cs:List (D A)):Option (Bool):=match cs with | [c0]=>(dBool c0).bind fun b1=>some b1 | _=>none
def yAey (x:List UInt8):List (D A):=[.str x]
def yxry (cs:List (D A)):Option (List UInt8):=match cs with | [c0]=>(dStr c0).bind fun b1=>some b1 | _=>none
def yCby (x:G_Stream):List (D A):=[.sl 3 x.f_L,.int .i64 x.f_at]
def yuly (cs:List (D A)):Option (G_Stream):=match cs with | [c0,c1]=>(dSl 3 c0).bind fun b1=>(dInt .i64 c1).bind fun b2=>some ⟨b1,b2⟩ | _=>none
def yuwy (x:Int):List (D A):=[.int .i64 x]
def yusy (cs:List (D A)):Option (Int):=match cs with | [c0]=>(dInt .i64 c0).bind fun b1=>some b1 | _=>none
def yt0y (x:G_Spot):List (D A):=[.int .i64 x.f_At,.int .i64 x.f_Hertz,.str x.f_Call,.str x.f_By]
def ytRy (cs:List (D A)):Option (G_Spot):=match cs with | [c0,c1,c2,c3]=>(dInt .i64 c0).bind fun b1=>(dInt .i64 c1).bind fun b2=>(dStr c2).bind fun b3=>(dStr c3).bind fun b4=>some ⟨b1,b2,b3,b4⟩ | _=>none
def yuKy (x:G_Band):List (D A):=[.str x.f_Key,.int .i64 x.f_Low,.int .i64 x.f_High]
def yuty (cs:List (D A)):Option (G_Band):=match cs with | [c0,c1,c2]=>(dStr c0).bind fun b1=>(dInt .i64 c1).bind fun b2=>(dInt .i64 c2).bind fun b3=>some ⟨b1,b2,b3⟩ | _=>none
def yuay (x:G_Contact):List (D A):=[.int .i64 x.f_At,.int .i64 x.f_Mode,.str x.f_Band,.str x.f_Call,.int .i64 x.f_Sent,.int .i64 x.f_Heard,.str x.f_Gave,.str x.f_Got]
def yt6y (cs:List (D A)):Option (G_Contact):=match cs with | [c0,c1,c2,c3,c4,c5,c6,c7]=>(dInt .i64 c0).bind fun b1=>(dInt .i64 c1).bind fun b2=>(dStr c2).bind fun b3=>(dStr c3).bind fun b4=>(dInt .i64 c4).bind fun b5=>(dInt .i64 c5).bind fun b6=>(dStr c6).bind fun b7=>(dStr c7).bind fun b8=>some ⟨b1,b2,b3,b4,b5,b6,b7,b8⟩ | _=>none
def yucy (x:G_band_worked):List (D A):=[.str x.f_base,.str x.f_band]
def yuAy (cs:List (D A)):Option (G_band_worked):=match cs with | [c0,c1]=>(dStr c0).bind fun b1=>(dStr c1).bind fun b2=>some ⟨b1,b2⟩ | _=>none
def yq2y (x:G_Window):List (D A):=[.int .i64 x.f_From,.int .i64 x.f_To]
def yqWy (cs:List (D A)):Option (G_Window):=match cs with | [c0,c1]=>(dInt .i64 c0).bind fun b1=>(dInt .i64 c1).bind fun b2=>some ⟨b1,b2⟩ | _=>none
def yzBy (x:G_Segment):List (D A):=[.str x.f_Class,.int .i64 x.f_Low,.int .i64 x.f_High,.sl 3 x.f_Modes,.int .i64 x.f_Time.f_From,.int .i64 x.f_Time.f_To]
def yrgy (cs:List (D A)):Option (G_Segment):=match cs with | [c0,c1,c2,c3,c4,c5]=>(dStr c0).bind fun b1=>(dInt .i64 c1).bind fun b2=>(dInt .i64 c2).bind fun b3=>(dSl 3 c3).bind fun b4=>(dInt .i64 c4).bind fun b5=>(dInt .i64 c5).bind fun b6=>some ⟨b1,b2,b3,b4,⟨b5,b6⟩⟩ | _=>none
def yrdy (x:G_Parts):List (D A):=[.str x.f_Base,.str x.f_Prefix,.str x.f_Suffix,.int .i64 x.f_Kind,.str x.f_Added]
def yqNy (cs:List (D A)):Option (G_Parts):=match cs with | [c0,c1,c2,c3,c4]=>(dStr c0).bind fun b1=>(dStr c1).bind fun b2=>(dStr c2).bind fun b3=>(dInt .i64 c3).bind fun b4=>(dStr c4).bind fun b5=>some ⟨b1,b2,b3,b4,b5⟩ | _=>none
def yqQy (x:G_band_onBand):List (D A):=[.str x.f_call,.int .i64 x.f_band]
def yriy (cs:List (D A)):Option (G_band_onBand):=match cs with | [c0,c1]=>(dStr c0).bind fun b1=>(dInt .i64 c1).bind fun b2=>some ⟨b1,b2⟩ | _=>none
def ymry (x:G_Row):List (D A):=[.int .i64 x.f_From,.int .i64 x.f_To]
def yrby (cs:List (D A)):Option (G_Row):=match cs with | [c0,c1]=>(dInt .i64 c0).bind fun b1=>(dInt .i64 c1).bind fun b2=>some ⟨b1,b2⟩ | _=>none
def encE:(k:El)→AE k→List (D A)
 | .e3,x=>yxPy x
 | .e4,x=>yw5y x
 | .e9,x=>yAey x
 | .e25,x=>yCby x
 | .e35,x=>yuwy x
 | .e52,x=>yt0y x
 | .e69,x=>yuKy x
 | .e77,x=>yuay x
 | .e88,x=>yucy x
 | .e108,x=>yq2y x
 | .e110,x=>yzBy x
 | .e126,x=>yrdy x
 | .e135,x=>yqQy x
 | .e144,x=>ymry x
 | .no,_=>[.nilif]
def decE:(k:El)→List (D A)→Option (AE k)
 | .e3,cs=>yyty cs
 | .e4,cs=>yAby cs
 | .e9,cs=>yxry cs
 | .e25,cs=>yuly cs
 | .e35,cs=>yusy cs
 | .e52,cs=>ytRy cs
 | .e69,cs=>yuty cs
 | .e77,cs=>yt6y cs
 | .e88,cs=>yuAy cs
 | .e108,cs=>yqWy cs
 | .e110,cs=>yrgy cs
 | .e126,cs=>yqNy cs
 | .e135,cs=>yriy cs
 | .e144,cs=>yrby cs
 | .no,_=>none
def aggE:El→Bool
 | .e3=>false
 | .e4=>false
 | .e9=>false
 | .e25=>true
 | .e35=>false
 | .e52=>true
 | .e69=>true
 | .e77=>true
 | .e88=>true
 | .e108=>true
 | .e110=>true
 | .e126=>true
 | .e135=>true
 | .e144=>true
 | .no=>false
def T:Ty A where
 size:=fun e=>sizeE (el e)
 enc:=fun e x=>encE (el e) x
 dec:=fun e cs=>decE (el e) cs
 agg:=fun e=>aggE (el e)
theorem lenE:∀ k x,(encE k x).length = sizeE k:=by intro k x; cases k <;> rfl
theorem posE:∀ k,0 < sizeE k:=by intro k; cases k <;> decide
theorem yPJy {U:Ty A} {cs:List (D A)} {x:Int} (h:yyty cs = some x):OkL U cs (yxPy x):=by
 unfold yyty at h
 split at h
 ·simp only [Option.bind_eq_some_iff] at h
  obtain ⟨b1,h1,hx⟩:=h
  obtain rfl:=Option.some.inj hx
  exact (.cons (gInt h1) .nil)
 ·cases h
theorem yPEy (x:Int):(yxPy x).all D.plain = true:=rfl
theorem yO5y {U:Ty A} {cs:List (D A)} {x:Bool} (h:yAby cs = some x):OkL U cs (yw5y x):=by
 unfold yAby at h
 split at h
 ·simp only [Option.bind_eq_some_iff] at h
  obtain ⟨b1,h1,hx⟩:=h
  obtain rfl:=Option.some.inj hx
  exact (.cons (gBool h1) .nil)
 ·cases h
theorem yPCy (x:Bool):(yw5y x).all D.plain = true:=rfl
theorem yOTy {U:Ty A} {cs:List (D A)} {x:List UInt8} (h:yxry cs = some x):OkL U cs (yAey x):=by
 unfold yxry at h
 split at h
 ·simp only [Option.bind_eq_some_iff] at h
  obtain ⟨b1,h1,hx⟩:=h
  obtain rfl:=Option.some.inj hx
  exact (.cons (gStr h1) .nil)
 ·cases h
theorem yPxy (x:List UInt8):(yAey x).all D.plain = true:=rfl
theorem yNay {U:Ty A} {cs:List (D A)} {x:G_Stream} (h:yuly cs = some x):OkL U cs (yCby x):=by
 unfold yuly at h
 split at h
 ·simp only [Option.bind_eq_some_iff] at h
  obtain ⟨b1,h1,b2,h2,hx⟩:=h
  obtain rfl:=Option.some.inj hx
  exact (.cons (gSl h1) (.cons (gInt h2) .nil))
 ·cases h
theorem yMdy {U:Ty A} {cs:List (D A)} {x:Int} (h:yusy cs = some x):OkL U cs (yuwy x):=by
 unfold yusy at h
 split at h
 ·simp only [Option.bind_eq_some_iff] at h
  obtain ⟨b1,h1,hx⟩:=h
  obtain rfl:=Option.some.inj hx
  exact (.cons (gInt h1) .nil)
 ·cases h
theorem yNgy (x:Int):(yuwy x).all D.plain = true:=rfl
theorem yLFy {U:Ty A} {cs:List (D A)} {x:G_Spot} (h:ytRy cs = some x):OkL U cs (yt0y x):=by
 unfold ytRy at h
 split at h
 ·simp only [Option.bind_eq_some_iff] at h
  obtain ⟨b1,h1,b2,h2,b3,h3,b4,h4,hx⟩:=h
  obtain rfl:=Option.some.inj hx
  exact (.cons (gInt h1) (.cons (gInt h2) (.cons (gStr h3) (.cons (gStr h4) .nil))))
 ·cases h
theorem yNuy (x:G_Spot):(yt0y x).all D.plain = true:=rfl
theorem yKay {U:Ty A} {cs:List (D A)} {x:G_Band} (h:yuty cs = some x):OkL U cs (yuKy x):=by
 unfold yuty at h
 split at h
 ·simp only [Option.bind_eq_some_iff] at h
  obtain ⟨b1,h1,b2,h2,b3,h3,hx⟩:=h
  obtain rfl:=Option.some.inj hx
  exact (.cons (gStr h1) (.cons (gInt h2) (.cons (gInt h3) .nil)))
 ·cases h
theorem yMwy (x:G_Band):(yuKy x).all D.plain = true:=rfl
theorem yNey {U:Ty A} {cs:List (D A)} {x:G_Contact} (h:yt6y cs = some x):OkL U cs (yuay x):=by
 unfold yt6y at h
 split at h
 ·simp only [Option.bind_eq_some_iff] at h
  obtain ⟨b1,h1,b2,h2,b3,h3,b4,h4,b5,h5,b6,h6,b7,h7,b8,h8,hx⟩:=h
  obtain rfl:=Option.some.inj hx
  exact (.cons (gInt h1) (.cons (gInt h2) (.cons (gStr h3) (.cons (gStr h4) (.cons (gInt h5) (.cons (gInt h6) (.cons (gStr h7) (.cons (gStr h8) .nil))))))))
 ·cases h
theorem yLWy (x:G_Contact):(yuay x).all D.plain = true:=rfl
theorem yMYy {U:Ty A} {cs:List (D A)} {x:G_band_worked} (h:yuAy cs = some x):OkL U cs (yucy x):=by
 unfold yuAy at h
 split at h
 ·simp only [Option.bind_eq_some_iff] at h
  obtain ⟨b1,h1,b2,h2,hx⟩:=h
  obtain rfl:=Option.some.inj hx
  exact (.cons (gStr h1) (.cons (gStr h2) .nil))
 ·cases h
theorem yKMy (x:G_band_worked):(yucy x).all D.plain = true:=rfl
theorem yI5y {U:Ty A} {cs:List (D A)} {x:G_Window} (h:yqWy cs = some x):OkL U cs (yq2y x):=by
 unfold yqWy at h
 split at h
 ·simp only [Option.bind_eq_some_iff] at h
  obtain ⟨b1,h1,b2,h2,hx⟩:=h
  obtain rfl:=Option.some.inj hx
  exact (.cons (gInt h1) (.cons (gInt h2) .nil))
 ·cases h
theorem yJcy (x:G_Window):(yq2y x).all D.plain = true:=rfl
theorem yISy {U:Ty A} {cs:List (D A)} {x:G_Segment} (h:yrgy cs = some x):OkL U cs (yzBy x):=by
 unfold yrgy at h
 split at h
 ·simp only [Option.bind_eq_some_iff] at h
  obtain ⟨b1,h1,b2,h2,b3,h3,b4,h4,b5,h5,b6,h6,hx⟩:=h
  obtain rfl:=Option.some.inj hx
  exact (.cons (gStr h1) (.cons (gInt h2) (.cons (gInt h3) (.cons (gSl h4) (.cons (gInt h5) (.cons (gInt h6) .nil))))))
 ·cases h
theorem yJxy {U:Ty A} {cs:List (D A)} {x:G_Parts} (h:yqNy cs = some x):OkL U cs (yrdy x):=by
 unfold yqNy at h
 split at h
 ·simp only [Option.bind_eq_some_iff] at h
  obtain ⟨b1,h1,b2,h2,b3,h3,b4,h4,b5,h5,hx⟩:=h
  obtain rfl:=Option.some.inj hx
  exact (.cons (gStr h1) (.cons (gStr h2) (.cons (gStr h3) (.cons (gInt h4) (.cons (gStr h5) .nil)))))
 ·cases h
theorem yHiy (x:G_Parts):(yrdy x).all D.plain = true:=rfl
theorem yI9y {U:Ty A} {cs:List (D A)} {x:G_band_onBand} (h:yriy cs = some x):OkL U cs (yqQy x):=by
 unfold yriy at h
 split at h
 ·simp only [Option.bind_eq_some_iff] at h
  obtain ⟨b1,h1,b2,h2,hx⟩:=h
  obtain rfl:=Option.some.inj hx
  exact (.cons (gStr h1) (.cons (gInt h2) .nil))
 ·cases h
theorem yHdy (x:G_band_onBand):(yqQy x).all D.plain = true:=rfl
theorem yHWy {U:Ty A} {cs:List (D A)} {x:G_Row} (h:yrby cs = some x):OkL U cs (ymry x):=by
 unfold yrby at h
 split at h
 ·simp only [Option.bind_eq_some_iff] at h
  obtain ⟨b1,h1,b2,h2,hx⟩:=h
  obtain rfl:=Option.some.inj hx
  exact (.cons (gInt h1) (.cons (gInt h2) .nil))
 ·cases h
theorem yHqy (x:G_Row):(ymry x).all D.plain = true:=rfl
def TD:Ty A:=T.day
theorem decOk {U:Ty A}:∀ k cs x,decE k cs = some x→OkL U cs (encE k x):=by
 intro k cs x h
 cases k
 case e3=>exact yPJy h
 case e4=>exact yO5y h
 case e9=>exact yOTy h
 case e25=>exact yNay h
 case e35=>exact yMdy h
 case e52=>exact yLFy h
 case e69=>exact yKay h
 case e77=>exact yNey h
 case e88=>exact yMYy h
 case e108=>exact yI5y h
 case e110=>exact yISy h
 case e126=>exact yJxy h
 case e135=>exact yI9y h
 case e144=>exact yHWy h
 case no=>cases h
theorem tyOkD (P:Program):TyOk P TD:=⟨fun e x=>lenE (el e) x,fun e=>posE (el e),fun e cs x h=>by
 obtain ⟨h1,h2⟩:=decOk (U:=TD) (el e) cs x h
 exact ⟨h1.trans (lenE (el e) x),h2⟩⟩
theorem tyOk (P:Program):TyOk P T:=⟨fun e x=>lenE (el e) x,fun e=>posE (el e),fun e cs x h=>by
 obtain ⟨h1,h2⟩:=decOk (el e) cs x h
 exact ⟨h1.trans (lenE (el e) x),h2⟩⟩
def flatE:El→Bool
 | .e3=>true
 | .e4=>true
 | .e9=>true
 | .e25=>false
 | .e35=>true
 | .e52=>true
 | .e69=>true
 | .e77=>true
 | .e88=>true
 | .e108=>true
 | .e110=>false
 | .e126=>true
 | .e135=>true
 | .e144=>true
 | .no=>false
def flatT (e:Nat):Bool:=flatE (el e)
theorem yCny:∀ k,flatE k = true→∀ x d,d ∈ encE k x→D.plain d = true:=by
 intro k h x d hd
 cases k
 case e3=>exact List.all_eq_true.1 (yPEy x) d hd
 case e4=>exact List.all_eq_true.1 (yPCy x) d hd
 case e9=>exact List.all_eq_true.1 (yPxy x) d hd
 case e25=>cases h
 case e35=>exact List.all_eq_true.1 (yNgy x) d hd
 case e52=>exact List.all_eq_true.1 (yNuy x) d hd
 case e69=>exact List.all_eq_true.1 (yMwy x) d hd
 case e77=>exact List.all_eq_true.1 (yLWy x) d hd
 case e88=>exact List.all_eq_true.1 (yKMy x) d hd
 case e108=>exact List.all_eq_true.1 (yJcy x) d hd
 case e110=>cases h
 case e126=>exact List.all_eq_true.1 (yHiy x) d hd
 case e135=>exact List.all_eq_true.1 (yHdy x) d hd
 case e144=>exact List.all_eq_true.1 (yHqy x) d hd
 case no=>cases h
def ybty (x y:G_Spot):Bool:=(x.f_At == y.f_At && (x.f_Hertz == y.f_Hertz && (x.f_Call == y.f_Call && (x.f_By == y.f_By && true))))
def yaJy (x:G_band_worked) (m:List (G_band_worked×Bool)):Option Bool:=getM T 88 4 x m
def yczy (x:G_band_worked) (m:List (G_band_worked×Bool)):List (G_band_worked×Bool):=delM T 88 4 x m
def ya9y (x:G_band_worked) (y:Bool) (m:List (G_band_worked×Bool)):List (G_band_worked×Bool):=setM T 88 4 x y m
def ya3y (x y:G_band_worked):Bool:=(x.f_base == y.f_base && (x.f_band == y.f_band && true))
theorem mget_band_worked_bool_nil (x:G_band_worked):yaJy x [] = none:=by kernel_rfl
theorem mget_band_worked_bool_cons (x:G_band_worked) (p:G_band_worked×Bool) (m:List (G_band_worked×Bool)):yaJy x (p :: m) = bif ya3y x p.1 then some p.2 else yaJy x m:=by kernel_rfl
theorem mdel_band_worked_bool_nil (x:G_band_worked):yczy x [] = []:=by kernel_rfl
theorem mdel_band_worked_bool_cons (x:G_band_worked) (p:G_band_worked×Bool) (m:List (G_band_worked×Bool)):yczy x (p :: m) = bif ya3y x p.1 then m else p :: yczy x m:=by kernel_rfl
theorem mset_band_worked_bool_nil (x:G_band_worked) (y:Bool):ya9y x y [] = [(x,y)]:=by kernel_rfl
theorem mset_band_worked_bool_cons (x:G_band_worked) (y:Bool) (p:G_band_worked×Bool) (m:List (G_band_worked×Bool)):ya9y x y (p :: m) = bif ya3y x p.1 then (x,y) :: m else p :: ya9y x y m:=by kernel_rfl
def yany (x:G_band_onBand) (m:List (G_band_onBand×Bool)):Option Bool:=getM T 135 4 x m
def ycAy (x:G_band_onBand) (m:List (G_band_onBand×Bool)):List (G_band_onBand×Bool):=delM T 135 4 x m
def yaTy (x:G_band_onBand) (y:Bool) (m:List (G_band_onBand×Bool)):List (G_band_onBand×Bool):=setM T 135 4 x y m
def ya5y (x y:G_band_onBand):Bool:=(x.f_call == y.f_call && (x.f_band == y.f_band && true))
theorem mget_band_onBand_bool_nil (x:G_band_onBand):yany x [] = none:=by kernel_rfl
theorem mget_band_onBand_bool_cons (x:G_band_onBand) (p:G_band_onBand×Bool) (m:List (G_band_onBand×Bool)):yany x (p :: m) = bif ya5y x p.1 then some p.2 else yany x m:=by kernel_rfl
theorem mdel_band_onBand_bool_nil (x:G_band_onBand):ycAy x [] = []:=by kernel_rfl
theorem mdel_band_onBand_bool_cons (x:G_band_onBand) (p:G_band_onBand×Bool) (m:List (G_band_onBand×Bool)):ycAy x (p :: m) = bif ya5y x p.1 then m else p :: ycAy x m:=by kernel_rfl
theorem mset_band_onBand_bool_nil (x:G_band_onBand) (y:Bool):yaTy x y [] = [(x,y)]:=by kernel_rfl
theorem mset_band_onBand_bool_cons (x:G_band_onBand) (y:Bool) (p:G_band_onBand×Bool) (m:List (G_band_onBand×Bool)):yaTy x y (p :: m) = bif ya5y x p.1 then (x,y) :: m else p :: yaTy x y m:=by kernel_rfl
theorem yPcy (x p:G_band_worked):eqT Tryz.prog 64 88 (ybCy T 88 x) (ybCy T 88 p) = some (eqDs (T.enc 88 x) (T.enc 88 p)):=by kernel_rfl
theorem ko_88:KeyOk Tryz.prog T 88:=by
 intro x p
 exact yPcy x p
theorem kd_88:∃ kd,Tryz.prog.underlying 88 = some kd:=Option.isSome_iff_exists.1 (by kernel_rfl)
theorem yNby (x p:G_band_onBand):eqT Tryz.prog 64 135 (ybCy T 135 x) (ybCy T 135 p) = some (eqDs (T.enc 135 x) (T.enc 135 p)):=by kernel_rfl
theorem yPBy:KeyOk Tryz.prog T 135:=by
 intro x p
 exact yNby x p
theorem yQfy:∃ kd,Tryz.prog.underlying 135 = some kd:=Option.isSome_iff_exists.1 (by kernel_rfl)
def keyT (k:Nat):Bool:=k == 88 || k == 135
theorem yFXy:∀ k,keyT k = true→KeyOk Tryz.prog T k∧∃ kd,Tryz.prog.underlying k = some kd:=by
 intro k h
 simp only [keyT,Bool.or_eq_true,beq_iff_eq] at h
 rcases h with rfl | rfl
 ·exact ⟨ko_88,kd_88⟩
 ·exact ⟨yPBy,yQfy⟩
theorem yPLy:yedy T flatT:=fun e h x d hd=>yCny (el e) h x d hd
def spT:List (Nat×Sp A):=[]
theorem spAll:SpAll Tryz.prog T spT:=.nil
theorem std:Std Tryz.prog T keyT flatT (fun f=>spT.lookup f):=⟨tyOk Tryz.prog,yPLy,yFXy,spAll.ok,by kernel_rfl⟩
abbrev Ok (f:Nat) (S:Spec A):Prop:=OkF Tryz.prog T f S
theorem stdD:Std Tryz.prog TD keyT flatT (fun _=>none):=⟨tyOkD Tryz.prog,fun e h x d hd=>yCny (el e) h x d hd,yFXy,fun _ _ h=>(by cases h),by kernel_rfl⟩
abbrev OkD (f:Nat) (S:Spec A):Prop:=OkF Tryz.prog TD f S
noncomputable def mkE (C:List (Nat×Spec A)) (tg:List (Nat×List Nat)) (lh xh:List (Nat×Hint)) (cl:List (Nat×Piece A)) (sh xs:List (Nat×Hint)) (cs:List (Nat×Piece A)) (md:List (Nat×Nat)) (pin:List Nat):Env A :=
 { P:=Tryz.prog,T:=T,C:=fun f=>C.lookup f,tg:=fun d=>(tg.lookup d).getD [],seqH:=fun i=>sh.lookup i,loopH:=fun i=>lh.lookup i,exitH:=fun i=>xh.lookup i,exitS:=fun i=>xs.lookup i,cutS:=fun i=>cs.lookup i,cutL:=fun i=>cl.lookup i,mode:=fun f i=>md.contains (f,i),sp:=fun f=>spT.lookup f,keyed:=keyT,flat:=flatT,pin:=pin }
noncomputable def mkED (C:List (Nat×Spec A)) (tg:List (Nat×List Nat)) (lh xh:List (Nat×Hint)) (cl:List (Nat×Piece A)) (sh xs:List (Nat×Hint)) (cs:List (Nat×Piece A)) (md:List (Nat×Nat)) (pin:List Nat):Env A :=
 { P:=Tryz.prog,T:=TD,C:=fun f=>C.lookup f,tg:=fun d=>(tg.lookup d).getD [],seqH:=fun i=>sh.lookup i,loopH:=fun i=>lh.lookup i,exitH:=fun i=>xh.lookup i,exitS:=fun i=>xs.lookup i,cutS:=fun i=>cs.lookup i,cutL:=fun i=>cl.lookup i,mode:=fun f i=>md.contains (f,i),keyed:=keyT,flat:=flatT,pin:=pin }
end Go.Am
