/- The functions of the program as Lean functions, each shown to be what the code computes, part 0. No condition: lemmas for the claim. -/
import Derived.Test.YtkcbebmbmffkjaaGreatDoorAmPrint
import Derived.Test.YtkcbebmbmffkjaaGreatDoorAmIn
import Derived.Test.YtkcbebmbmffkjaaGreatDoorProg
import Derived.KernelRfl
set_option linter.unusedVariables false
set_option maxRecDepth 100000
namespace Go.Am
open Go Go.Proofs
structure G_Stream where
 f_L : List Int
 f_at : Int
 deriving DecidableEq
structure G_Spot where
 f_At : Int
 f_Hertz : Int
 f_Call : List UInt8
 f_By : List UInt8
 deriving DecidableEq
structure G_Pair where
 f_Name : List UInt8
 f_Value : List UInt8
 deriving DecidableEq
structure G_Band where
 f_Key : List UInt8
 f_Low : Int
 f_High : Int
 deriving DecidableEq
structure G_Window where
 f_From : Int
 f_To : Int
 deriving DecidableEq
structure G_Segment where
 f_Class : List UInt8
 f_Low : Int
 f_High : Int
 f_Modes : List Int
 f_Time : G_Window
 deriving DecidableEq
structure G_Parts where
 f_Base : List UInt8
 f_Prefix : List UInt8
 f_Suffix : List UInt8
 f_Kind : Int
 f_Added : List UInt8
 deriving DecidableEq
structure G_band_onBand where
 f_call : List UInt8
 f_band : Int
 deriving DecidableEq
structure G_Row where
 f_From : Int
 f_To : Int
 deriving DecidableEq
inductive El where
 | e3 | e4 | e9 | e25 | e28 | e35 | e52 | e65 | e69 | e108 | e110 | e126 | e135 | e144 | no
def el : Nat → El
 | 3 => .e3
 | 4 => .e4
 | 9 => .e9
 | 25 => .e25
 | 28 => .e28
 | 35 => .e35
 | 52 => .e52
 | 65 => .e65
 | 69 => .e69
 | 108 => .e108
 | 110 => .e110
 | 126 => .e126
 | 135 => .e135
 | 144 => .e144
 | _ => .no
def AE : El → Type
 | .e3 => Int
 | .e4 => Bool
 | .e9 => List UInt8
 | .e25 => G_Stream
 | .e28 => List G_Spot
 | .e35 => Int
 | .e52 => G_Spot
 | .e65 => G_Pair
 | .e69 => G_Band
 | .e108 => G_Window
 | .e110 => G_Segment
 | .e126 => G_Parts
 | .e135 => G_band_onBand
 | .e144 => G_Row
 | .no => Unit
abbrev A (e : Nat) : Type := AE (el e)
def sizeE : El → Nat
 | .e3 => 1
 | .e4 => 1
 | .e9 => 1
 | .e25 => 2
 | .e28 => 1
 | .e35 => 1
 | .e52 => 4
 | .e65 => 2
 | .e69 => 3
 | .e108 => 2
 | .e110 => 6
 | .e126 => 5
 | .e135 => 2
 | .e144 => 2
 | .no => 1
def enc_e3 (x : Int) : List (D A) := [.int .i64 x]
def dec_e3 (cs : List (D A)) : Option (Int) := match cs with | [c0] => (dInt .i64 c0).bind fun b1 => some b1 | _ => none
def enc_e4 (x : Bool) : List (D A) := [.bool x]
def dec_e4 (cs : List (D A)) : Option (Bool) := match cs with | [c0] => (dBool c0).bind fun b1 => some b1 | _ => none
def enc_e9 (x : List UInt8) : List (D A) := [.str x]
def dec_e9 (cs : List (D A)) : Option (List UInt8) := match cs with | [c0] => (dStr c0).bind fun b1 => some b1 | _ => none
def enc_e25 (x : G_Stream) : List (D A) := [.sl 3 x.f_L, .int .i64 x.f_at]
def dec_e25 (cs : List (D A)) : Option (G_Stream) := match cs with | [c0, c1] => (dSl 3 c0).bind fun b1 => (dInt .i64 c1).bind fun b2 => some ⟨b1, b2⟩ | _ => none
def enc_e28 (x : List G_Spot) : List (D A) := [.sl 52 x]
def dec_e28 (cs : List (D A)) : Option (List G_Spot) := match cs with | [c0] => (dSl 52 c0).bind fun b1 => some b1 | _ => none
def enc_e35 (x : Int) : List (D A) := [.int .i64 x]
def dec_e35 (cs : List (D A)) : Option (Int) := match cs with | [c0] => (dInt .i64 c0).bind fun b1 => some b1 | _ => none
def enc_e52 (x : G_Spot) : List (D A) := [.int .i64 x.f_At, .int .i64 x.f_Hertz, .str x.f_Call, .str x.f_By]
def dec_e52 (cs : List (D A)) : Option (G_Spot) := match cs with | [c0, c1, c2, c3] => (dInt .i64 c0).bind fun b1 => (dInt .i64 c1).bind fun b2 => (dStr c2).bind fun b3 => (dStr c3).bind fun b4 => some ⟨b1, b2, b3, b4⟩ | _ => none
def enc_e65 (x : G_Pair) : List (D A) := [.str x.f_Name, .str x.f_Value]
def dec_e65 (cs : List (D A)) : Option (G_Pair) := match cs with | [c0, c1] => (dStr c0).bind fun b1 => (dStr c1).bind fun b2 => some ⟨b1, b2⟩ | _ => none
def enc_e69 (x : G_Band) : List (D A) := [.str x.f_Key, .int .i64 x.f_Low, .int .i64 x.f_High]
def dec_e69 (cs : List (D A)) : Option (G_Band) := match cs with | [c0, c1, c2] => (dStr c0).bind fun b1 => (dInt .i64 c1).bind fun b2 => (dInt .i64 c2).bind fun b3 => some ⟨b1, b2, b3⟩ | _ => none
def enc_e108 (x : G_Window) : List (D A) := [.int .i64 x.f_From, .int .i64 x.f_To]
def dec_e108 (cs : List (D A)) : Option (G_Window) := match cs with | [c0, c1] => (dInt .i64 c0).bind fun b1 => (dInt .i64 c1).bind fun b2 => some ⟨b1, b2⟩ | _ => none
def enc_e110 (x : G_Segment) : List (D A) := [.str x.f_Class, .int .i64 x.f_Low, .int .i64 x.f_High, .sl 3 x.f_Modes, .int .i64 x.f_Time.f_From, .int .i64 x.f_Time.f_To]
def dec_e110 (cs : List (D A)) : Option (G_Segment) := match cs with | [c0, c1, c2, c3, c4, c5] => (dStr c0).bind fun b1 => (dInt .i64 c1).bind fun b2 => (dInt .i64 c2).bind fun b3 => (dSl 3 c3).bind fun b4 => (dInt .i64 c4).bind fun b5 => (dInt .i64 c5).bind fun b6 => some ⟨b1, b2, b3, b4, ⟨b5, b6⟩⟩ | _ => none
def enc_e126 (x : G_Parts) : List (D A) := [.str x.f_Base, .str x.f_Prefix, .str x.f_Suffix, .int .i64 x.f_Kind, .str x.f_Added]
def dec_e126 (cs : List (D A)) : Option (G_Parts) := match cs with | [c0, c1, c2, c3, c4] => (dStr c0).bind fun b1 => (dStr c1).bind fun b2 => (dStr c2).bind fun b3 => (dInt .i64 c3).bind fun b4 => (dStr c4).bind fun b5 => some ⟨b1, b2, b3, b4, b5⟩ | _ => none
def enc_e135 (x : G_band_onBand) : List (D A) := [.str x.f_call, .int .i64 x.f_band]
def dec_e135 (cs : List (D A)) : Option (G_band_onBand) := match cs with | [c0, c1] => (dStr c0).bind fun b1 => (dInt .i64 c1).bind fun b2 => some ⟨b1, b2⟩ | _ => none
def enc_e144 (x : G_Row) : List (D A) := [.int .i64 x.f_From, .int .i64 x.f_To]
def dec_e144 (cs : List (D A)) : Option (G_Row) := match cs with | [c0, c1] => (dInt .i64 c0).bind fun b1 => (dInt .i64 c1).bind fun b2 => some ⟨b1, b2⟩ | _ => none
def encE : (k : El) → AE k → List (D A)
 | .e3, x => enc_e3 x
 | .e4, x => enc_e4 x
 | .e9, x => enc_e9 x
 | .e25, x => enc_e25 x
 | .e28, x => enc_e28 x
 | .e35, x => enc_e35 x
 | .e52, x => enc_e52 x
 | .e65, x => enc_e65 x
 | .e69, x => enc_e69 x
 | .e108, x => enc_e108 x
 | .e110, x => enc_e110 x
 | .e126, x => enc_e126 x
 | .e135, x => enc_e135 x
 | .e144, x => enc_e144 x
 | .no, _ => [.nilif]
def decE : (k : El) → List (D A) → Option (AE k)
 | .e3, cs => dec_e3 cs
 | .e4, cs => dec_e4 cs
 | .e9, cs => dec_e9 cs
 | .e25, cs => dec_e25 cs
 | .e28, cs => dec_e28 cs
 | .e35, cs => dec_e35 cs
 | .e52, cs => dec_e52 cs
 | .e65, cs => dec_e65 cs
 | .e69, cs => dec_e69 cs
 | .e108, cs => dec_e108 cs
 | .e110, cs => dec_e110 cs
 | .e126, cs => dec_e126 cs
 | .e135, cs => dec_e135 cs
 | .e144, cs => dec_e144 cs
 | .no, _ => none
def aggE : El → Bool
 | .e3 => false
 | .e4 => false
 | .e9 => false
 | .e25 => true
 | .e28 => false
 | .e35 => false
 | .e52 => true
 | .e65 => true
 | .e69 => true
 | .e108 => true
 | .e110 => true
 | .e126 => true
 | .e135 => true
 | .e144 => true
 | .no => false
theorem tabg : Tryz.prog.globalNamed "internal/strconv.uint64pow10" = some 1 := by kernel_rfl
def T : Ty A where
 size := fun e => sizeE (el e)
 enc := fun e x => encE (el e) x
 dec := fun e cs => decE (el e) cs
 agg := fun e => aggE (el e)
 fix := [1]
 amb := fun w => Lib.TabIs Tryz.prog w "internal/strconv.uint64pow10" .u64 Lib.pow10Tab
 ambOk := tab_amb tabg
theorem lenE : ∀ k x, (encE k x).length = sizeE k := by intro k x; cases k <;> rfl
theorem posE : ∀ k, 0 < sizeE k := by intro k; cases k <;> decide
theorem dok_e3 {U : Ty A} {cs : List (D A)} {x : Int} (h : dec_e3 cs = some x) : OkL U cs (enc_e3 x) := by
 unfold dec_e3 at h
 split at h
 ·simp only [Option.bind_eq_some_iff] at h
  obtain ⟨b1, h1, hx⟩ := h
  obtain rfl := Option.some.inj hx
  exact (.cons (gInt h1) .nil)
 ·cases h
theorem flt_e3 (x : Int) : (enc_e3 x).all D.plain = true := rfl
theorem dok_e4 {U : Ty A} {cs : List (D A)} {x : Bool} (h : dec_e4 cs = some x) : OkL U cs (enc_e4 x) := by
 unfold dec_e4 at h
 split at h
 ·simp only [Option.bind_eq_some_iff] at h
  obtain ⟨b1, h1, hx⟩ := h
  obtain rfl := Option.some.inj hx
  exact (.cons (gBool h1) .nil)
 ·cases h
theorem flt_e4 (x : Bool) : (enc_e4 x).all D.plain = true := rfl
theorem dok_e9 {U : Ty A} {cs : List (D A)} {x : List UInt8} (h : dec_e9 cs = some x) : OkL U cs (enc_e9 x) := by
 unfold dec_e9 at h
 split at h
 ·simp only [Option.bind_eq_some_iff] at h
  obtain ⟨b1, h1, hx⟩ := h
  obtain rfl := Option.some.inj hx
  exact (.cons (gStr h1) .nil)
 ·cases h
theorem flt_e9 (x : List UInt8) : (enc_e9 x).all D.plain = true := rfl
theorem dok_e25 {U : Ty A} {cs : List (D A)} {x : G_Stream} (h : dec_e25 cs = some x) : OkL U cs (enc_e25 x) := by
 unfold dec_e25 at h
 split at h
 ·simp only [Option.bind_eq_some_iff] at h
  obtain ⟨b1, h1, b2, h2, hx⟩ := h
  obtain rfl := Option.some.inj hx
  exact (.cons (gSl h1) (.cons (gInt h2) .nil))
 ·cases h
theorem dok_e28 {U : Ty A} {cs : List (D A)} {x : List G_Spot} (h : dec_e28 cs = some x) : OkL U cs (enc_e28 x) := by
 unfold dec_e28 at h
 split at h
 ·simp only [Option.bind_eq_some_iff] at h
  obtain ⟨b1, h1, hx⟩ := h
  obtain rfl := Option.some.inj hx
  exact (.cons (gSl h1) .nil)
 ·cases h
theorem dok_e35 {U : Ty A} {cs : List (D A)} {x : Int} (h : dec_e35 cs = some x) : OkL U cs (enc_e35 x) := by
 unfold dec_e35 at h
 split at h
 ·simp only [Option.bind_eq_some_iff] at h
  obtain ⟨b1, h1, hx⟩ := h
  obtain rfl := Option.some.inj hx
  exact (.cons (gInt h1) .nil)
 ·cases h
theorem flt_e35 (x : Int) : (enc_e35 x).all D.plain = true := rfl
theorem dok_e52 {U : Ty A} {cs : List (D A)} {x : G_Spot} (h : dec_e52 cs = some x) : OkL U cs (enc_e52 x) := by
 unfold dec_e52 at h
 split at h
 ·simp only [Option.bind_eq_some_iff] at h
  obtain ⟨b1, h1, b2, h2, b3, h3, b4, h4, hx⟩ := h
  obtain rfl := Option.some.inj hx
  exact (.cons (gInt h1) (.cons (gInt h2) (.cons (gStr h3) (.cons (gStr h4) .nil))))
 ·cases h
theorem flt_e52 (x : G_Spot) : (enc_e52 x).all D.plain = true := rfl
theorem dok_e65 {U : Ty A} {cs : List (D A)} {x : G_Pair} (h : dec_e65 cs = some x) : OkL U cs (enc_e65 x) := by
 unfold dec_e65 at h
 split at h
 ·simp only [Option.bind_eq_some_iff] at h
  obtain ⟨b1, h1, b2, h2, hx⟩ := h
  obtain rfl := Option.some.inj hx
  exact (.cons (gStr h1) (.cons (gStr h2) .nil))
 ·cases h
theorem flt_e65 (x : G_Pair) : (enc_e65 x).all D.plain = true := rfl
theorem dok_e69 {U : Ty A} {cs : List (D A)} {x : G_Band} (h : dec_e69 cs = some x) : OkL U cs (enc_e69 x) := by
 unfold dec_e69 at h
 split at h
 ·simp only [Option.bind_eq_some_iff] at h
  obtain ⟨b1, h1, b2, h2, b3, h3, hx⟩ := h
  obtain rfl := Option.some.inj hx
  exact (.cons (gStr h1) (.cons (gInt h2) (.cons (gInt h3) .nil)))
 ·cases h
theorem flt_e69 (x : G_Band) : (enc_e69 x).all D.plain = true := rfl
theorem dok_e108 {U : Ty A} {cs : List (D A)} {x : G_Window} (h : dec_e108 cs = some x) : OkL U cs (enc_e108 x) := by
 unfold dec_e108 at h
 split at h
 ·simp only [Option.bind_eq_some_iff] at h
  obtain ⟨b1, h1, b2, h2, hx⟩ := h
  obtain rfl := Option.some.inj hx
  exact (.cons (gInt h1) (.cons (gInt h2) .nil))
 ·cases h
theorem flt_e108 (x : G_Window) : (enc_e108 x).all D.plain = true := rfl
theorem dok_e110 {U : Ty A} {cs : List (D A)} {x : G_Segment} (h : dec_e110 cs = some x) : OkL U cs (enc_e110 x) := by
 unfold dec_e110 at h
 split at h
 ·simp only [Option.bind_eq_some_iff] at h
  obtain ⟨b1, h1, b2, h2, b3, h3, b4, h4, b5, h5, b6, h6, hx⟩ := h
  obtain rfl := Option.some.inj hx
  exact (.cons (gStr h1) (.cons (gInt h2) (.cons (gInt h3) (.cons (gSl h4) (.cons (gInt h5) (.cons (gInt h6) .nil))))))
 ·cases h
theorem dok_e126 {U : Ty A} {cs : List (D A)} {x : G_Parts} (h : dec_e126 cs = some x) : OkL U cs (enc_e126 x) := by
 unfold dec_e126 at h
 split at h
 ·simp only [Option.bind_eq_some_iff] at h
  obtain ⟨b1, h1, b2, h2, b3, h3, b4, h4, b5, h5, hx⟩ := h
  obtain rfl := Option.some.inj hx
  exact (.cons (gStr h1) (.cons (gStr h2) (.cons (gStr h3) (.cons (gInt h4) (.cons (gStr h5) .nil)))))
 ·cases h
theorem flt_e126 (x : G_Parts) : (enc_e126 x).all D.plain = true := rfl
theorem dok_e135 {U : Ty A} {cs : List (D A)} {x : G_band_onBand} (h : dec_e135 cs = some x) : OkL U cs (enc_e135 x) := by
 unfold dec_e135 at h
 split at h
 ·simp only [Option.bind_eq_some_iff] at h
  obtain ⟨b1, h1, b2, h2, hx⟩ := h
  obtain rfl := Option.some.inj hx
  exact (.cons (gStr h1) (.cons (gInt h2) .nil))
 ·cases h
theorem flt_e135 (x : G_band_onBand) : (enc_e135 x).all D.plain = true := rfl
theorem dok_e144 {U : Ty A} {cs : List (D A)} {x : G_Row} (h : dec_e144 cs = some x) : OkL U cs (enc_e144 x) := by
 unfold dec_e144 at h
 split at h
 ·simp only [Option.bind_eq_some_iff] at h
  obtain ⟨b1, h1, b2, h2, hx⟩ := h
  obtain rfl := Option.some.inj hx
  exact (.cons (gInt h1) (.cons (gInt h2) .nil))
 ·cases h
theorem flt_e144 (x : G_Row) : (enc_e144 x).all D.plain = true := rfl
def TD : Ty A := T.day
theorem decOk {U : Ty A} : ∀ k cs x, decE k cs = some x → OkL U cs (encE k x) := by
 intro k cs x h
 cases k
 case e3 => exact dok_e3 h
 case e4 => exact dok_e4 h
 case e9 => exact dok_e9 h
 case e25 => exact dok_e25 h
 case e28 => exact dok_e28 h
 case e35 => exact dok_e35 h
 case e52 => exact dok_e52 h
 case e65 => exact dok_e65 h
 case e69 => exact dok_e69 h
 case e108 => exact dok_e108 h
 case e110 => exact dok_e110 h
 case e126 => exact dok_e126 h
 case e135 => exact dok_e135 h
 case e144 => exact dok_e144 h
 case no => cases h
theorem tyOkD (P : Program) : TyOk P TD := ⟨fun e x => lenE (el e) x, fun e => posE (el e), fun e cs x h => by
 obtain ⟨h1, h2⟩ := decOk (U := TD) (el e) cs x h
 exact ⟨h1.trans (lenE (el e) x), h2⟩⟩
theorem tyOk (P : Program) : TyOk P T := ⟨fun e x => lenE (el e) x, fun e => posE (el e), fun e cs x h => by
 obtain ⟨h1, h2⟩ := decOk (el e) cs x h
 exact ⟨h1.trans (lenE (el e) x), h2⟩⟩
def flatE : El → Bool
 | .e3 => true
 | .e4 => true
 | .e9 => true
 | .e25 => false
 | .e28 => false
 | .e35 => true
 | .e52 => true
 | .e65 => true
 | .e69 => true
 | .e108 => true
 | .e110 => false
 | .e126 => true
 | .e135 => true
 | .e144 => true
 | .no => false
def flatT (e : Nat) : Bool := flatE (el e)
theorem flatEOk : ∀ k, flatE k = true → ∀ x d, d ∈ encE k x → D.plain d = true := by
 intro k h x d hd
 cases k
 case e3 => exact List.all_eq_true.1 (flt_e3 x) d hd
 case e4 => exact List.all_eq_true.1 (flt_e4 x) d hd
 case e9 => exact List.all_eq_true.1 (flt_e9 x) d hd
 case e25 => cases h
 case e28 => cases h
 case e35 => exact List.all_eq_true.1 (flt_e35 x) d hd
 case e52 => exact List.all_eq_true.1 (flt_e52 x) d hd
 case e65 => exact List.all_eq_true.1 (flt_e65 x) d hd
 case e69 => exact List.all_eq_true.1 (flt_e69 x) d hd
 case e108 => exact List.all_eq_true.1 (flt_e108 x) d hd
 case e110 => cases h
 case e126 => exact List.all_eq_true.1 (flt_e126 x) d hd
 case e135 => exact List.all_eq_true.1 (flt_e135 x) d hd
 case e144 => exact List.all_eq_true.1 (flt_e144 x) d hd
 case no => cases h
def eq_G_Spot (x y : G_Spot) : Bool := (x.f_At == y.f_At && (x.f_Hertz == y.f_Hertz && (x.f_Call == y.f_Call && (x.f_By == y.f_By && true))))
def eq_G_Pair (x y : G_Pair) : Bool := (x.f_Name == y.f_Name && (x.f_Value == y.f_Value && true))
def mget_string_int (x : List UInt8) (m : List (List UInt8 × Int)) : Option Int := getM T 9 3 x m
def mdel_string_int (x : List UInt8) (m : List (List UInt8 × Int)) : List (List UInt8 × Int) := delM T 9 3 x m
def mset_string_int (x : List UInt8) (y : Int) (m : List (List UInt8 × Int)) : List (List UInt8 × Int) := setM T 9 3 x y m
def keq_string (x y : List UInt8) : Bool := (x == y && true)
theorem mget_string_int_nil (x : List UInt8) : mget_string_int x [] = none := by kernel_rfl
theorem mget_string_int_cons (x : List UInt8) (p : List UInt8 × Int) (m : List (List UInt8 × Int)) : mget_string_int x (p :: m) = bif keq_string x p.1 then some p.2 else mget_string_int x m := by kernel_rfl
theorem mdel_string_int_nil (x : List UInt8) : mdel_string_int x [] = [] := by kernel_rfl
theorem mdel_string_int_cons (x : List UInt8) (p : List UInt8 × Int) (m : List (List UInt8 × Int)) : mdel_string_int x (p :: m) = bif keq_string x p.1 then m else p :: mdel_string_int x m := by kernel_rfl
theorem mset_string_int_nil (x : List UInt8) (y : Int) : mset_string_int x y [] = [(x, y)] := by kernel_rfl
theorem mset_string_int_cons (x : List UInt8) (y : Int) (p : List UInt8 × Int) (m : List (List UInt8 × Int)) : mset_string_int x y (p :: m) = bif keq_string x p.1 then (x, y) :: m else p :: mset_string_int x y m := by kernel_rfl
def mget_band_onBand_bool (x : G_band_onBand) (m : List (G_band_onBand × Bool)) : Option Bool := getM T 135 4 x m
def mdel_band_onBand_bool (x : G_band_onBand) (m : List (G_band_onBand × Bool)) : List (G_band_onBand × Bool) := delM T 135 4 x m
def mset_band_onBand_bool (x : G_band_onBand) (y : Bool) (m : List (G_band_onBand × Bool)) : List (G_band_onBand × Bool) := setM T 135 4 x y m
def keq_band_onBand (x y : G_band_onBand) : Bool := (x.f_call == y.f_call && (x.f_band == y.f_band && true))
theorem mget_band_onBand_bool_nil (x : G_band_onBand) : mget_band_onBand_bool x [] = none := by kernel_rfl
theorem mget_band_onBand_bool_cons (x : G_band_onBand) (p : G_band_onBand × Bool) (m : List (G_band_onBand × Bool)) : mget_band_onBand_bool x (p :: m) = bif keq_band_onBand x p.1 then some p.2 else mget_band_onBand_bool x m := by kernel_rfl
theorem mdel_band_onBand_bool_nil (x : G_band_onBand) : mdel_band_onBand_bool x [] = [] := by kernel_rfl
theorem mdel_band_onBand_bool_cons (x : G_band_onBand) (p : G_band_onBand × Bool) (m : List (G_band_onBand × Bool)) : mdel_band_onBand_bool x (p :: m) = bif keq_band_onBand x p.1 then m else p :: mdel_band_onBand_bool x m := by kernel_rfl
theorem mset_band_onBand_bool_nil (x : G_band_onBand) (y : Bool) : mset_band_onBand_bool x y [] = [(x, y)] := by kernel_rfl
theorem mset_band_onBand_bool_cons (x : G_band_onBand) (y : Bool) (p : G_band_onBand × Bool) (m : List (G_band_onBand × Bool)) : mset_band_onBand_bool x y (p :: m) = bif keq_band_onBand x p.1 then (x, y) :: m else p :: mset_band_onBand_bool x y m := by kernel_rfl
theorem ko_9x (x p : List UInt8) : eqT Tryz.prog 64 9 (packAV T 9 x) (packAV T 9 p) = some ((x : List UInt8) == (p : List UInt8)) := by kernel_rfl
theorem ko_9y (x p : List UInt8) : some (eqDs (T.enc 9 x) (T.enc 9 p)) = some ((x == p) && true) := by kernel_rfl
theorem ko_9z (x p : List UInt8) : eqT Tryz.prog 64 9 (packAV T 9 x) (packAV T 9 p) = some (eqDs (T.enc 9 x) (T.enc 9 p)) := (ko_9x x p).trans (((congrArg some (Bool.and_true (x == p))).symm).trans (ko_9y x p).symm)
theorem ko_9 : KeyOk Tryz.prog T 9 := fun x p => ko_9z x p
theorem kd_9 : ∃ kd, Tryz.prog.underlying 9 = some kd := Option.isSome_iff_exists.1 (by kernel_rfl)
theorem ko_135x (x p : G_band_onBand) : eqT Tryz.prog 64 135 (packAV T 135 x) (packAV T 135 p) = some (eqDs (T.enc 135 x) (T.enc 135 p)) := by kernel_rfl
theorem ko_135 : KeyOk Tryz.prog T 135 := by
 intro x p
 exact ko_135x x p
theorem kd_135 : ∃ kd, Tryz.prog.underlying 135 = some kd := Option.isSome_iff_exists.1 (by kernel_rfl)
def keyT (k : Nat) : Bool := k == 9 || k == 135
theorem keysOk : ∀ k, keyT k = true → KeyOk Tryz.prog T k ∧ ∃ kd, Tryz.prog.underlying k = some kd := by
 intro k h
 simp only [keyT, Bool.or_eq_true, beq_iff_eq] at h
 rcases h with rfl | rfl
 ·exact ⟨ko_9, kd_9⟩
 ·exact ⟨ko_135, kd_135⟩
theorem flatOk : FlatOk T flatT := fun e h x d hd => flatEOk (el e) h x d hd
def spT : List (Nat × Sp A) := []
theorem spAll : SpAll Tryz.prog T spT := .nil
theorem std : Std Tryz.prog T keyT flatT (fun f => spT.lookup f) := ⟨tyOk Tryz.prog, flatOk, keysOk, spAll.ok, by kernel_rfl⟩
abbrev Ok (f : Nat) (S : Spec A) : Prop := OkF Tryz.prog T f S
theorem stdD : Std Tryz.prog TD keyT flatT (fun _ => none) := ⟨tyOkD Tryz.prog, fun e h x d hd => flatEOk (el e) h x d hd, keysOk, fun _ _ h => (by cases h), by kernel_rfl⟩
abbrev OkD (f : Nat) (S : Spec A) : Prop := OkF Tryz.prog TD f S
noncomputable def mkE (C : List (Nat × Spec A)) (tg : List (Nat × List Nat)) (lh xh : List (Nat × Hint)) (cl : List (Nat × Piece A)) (sh xs : List (Nat × Hint)) (cs : List (Nat × Piece A)) (md : List (Nat × Nat)) (pin : List Nat) : Env A :=
 { P := Tryz.prog, T := T, C := fun f => C.lookup f, tg := fun d => (tg.lookup d).getD [], seqH := fun i => sh.lookup i, loopH := fun i => lh.lookup i, exitH := fun i => xh.lookup i, exitS := fun i => xs.lookup i, cutS := fun i => cs.lookup i, cutL := fun i => cl.lookup i, mode := fun f i => md.contains (f, i), sp := fun f => spT.lookup f, keyed := keyT, flat := flatT, pin := pin }
noncomputable def mkED (C : List (Nat × Spec A)) (tg : List (Nat × List Nat)) (lh xh : List (Nat × Hint)) (cl : List (Nat × Piece A)) (sh xs : List (Nat × Hint)) (cs : List (Nat × Piece A)) (md : List (Nat × Nat)) (pin : List Nat) : Env A :=
 { P := Tryz.prog, T := TD, C := fun f => C.lookup f, tg := fun d => (tg.lookup d).getD [], seqH := fun i => sh.lookup i, loopH := fun i => lh.lookup i, exitH := fun i => xh.lookup i, exitS := fun i => xs.lookup i, cutS := fun i => cs.lookup i, cutL := fun i => cl.lookup i, mode := fun f i => md.contains (f, i), keyed := keyT, flat := flatT, pin := pin }
end Go.Am
