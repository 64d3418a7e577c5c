/- The functions of the program as Lean functions, each shown to be what the code computes, part 0. No condition: lemmas for the claim. -/
import Derived.Test.YtonhhbcacemaiaaGreatDoorAmPrint
import Derived.Test.YtonhhbcacemaiaaGreatDoorAmIn
import Derived.Test.YtonhhbcacemaiaaGreatDoorFSh
import Derived.Test.YtonhhbcacemaiaaGreatDoorAmExt2
import Derived.Test.YtonhhbcacemaiaaGreatDoorProg
import Derived.KernelRfl
set_option linter.unusedVariables false
set_option maxRecDepth 100000
namespace Go.Am
open Go Go.Proofs
structure G_Stream where
 f_L : List Int
 f_at : Int
 deriving DecidableEq
structure G_Row where
 f_From : Int
 f_To : Int
 deriving DecidableEq
structure G_Club where
 f_Key : List UInt8
 f_Squares : List (List UInt8)
 deriving DecidableEq
structure G_Member where
 f_Call : List UInt8
 f_Club : List UInt8
 f_Day : Int
 f_Locator : List UInt8
 deriving DecidableEq
structure G_Window where
 f_From : Int
 f_To : Int
 deriving DecidableEq
structure G_Segment where
 f_Class : List UInt8
 f_Low : Int
 f_High : Int
 f_Modes : List Int
 f_Time : G_Window
 deriving DecidableEq
structure G_Contact where
 f_At : Int
 f_Mode : Int
 f_Band : List UInt8
 f_Call : List UInt8
 f_Sent : Int
 f_Heard : Int
 f_Gave : List UInt8
 f_Got : List UInt8
 deriving DecidableEq
structure G_Entrant where
 f_Call : List UInt8
 f_Category : List UInt8
 f_Points : Int
 f_Locator : List UInt8
 deriving DecidableEq
structure G_Deed where
 f_Site : List UInt8
 f_No : Int
 f_At : Int
 f_Kind : Int
 f_Contact : G_Contact
 f_Band : List UInt8
 f_Of : List UInt8
 f_Other : Int
 deriving DecidableEq
structure G_Parts where
 f_Base : List UInt8
 f_Prefix : List UInt8
 f_Suffix : List UInt8
 f_Kind : Int
 f_Added : List UInt8
 deriving DecidableEq
structure G_Place where
 f_Rank : Int
 f_Points : Int
 f_Key : List UInt8
 deriving DecidableEq
structure G_log_worked where
 f_base : List UInt8
 f_band : List UInt8
 f_mode : Int
 deriving DecidableEq
structure G_net_own where
 f_site : List UInt8
 f_no : Int
 deriving DecidableEq
inductive El where
 | e3 | e4 | e9 | e25 | e30 | e36 | e81 | e85 | e91 | e93 | e104 | e112 | e117 | e140 | e172 | e211 | e256 | no
def el : Nat → El
 | 3 => .e3
 | 4 => .e4
 | 9 => .e9
 | 25 => .e25
 | 30 => .e30
 | 36 => .e36
 | 81 => .e81
 | 85 => .e85
 | 91 => .e91
 | 93 => .e93
 | 104 => .e104
 | 112 => .e112
 | 117 => .e117
 | 140 => .e140
 | 172 => .e172
 | 211 => .e211
 | 256 => .e256
 | _ => .no
def AE : El → Type
 | .e3 => Int
 | .e4 => Bool
 | .e9 => List UInt8
 | .e25 => G_Stream
 | .e30 => Int
 | .e36 => G_Row
 | .e81 => G_Club
 | .e85 => G_Member
 | .e91 => G_Window
 | .e93 => G_Segment
 | .e104 => G_Contact
 | .e112 => G_Entrant
 | .e117 => G_Deed
 | .e140 => G_Parts
 | .e172 => G_Place
 | .e211 => G_log_worked
 | .e256 => G_net_own
 | .no => Unit
abbrev A (e : Nat) : Type := AE (el e)
def sizeE : El → Nat
 | .e3 => 1
 | .e4 => 1
 | .e9 => 1
 | .e25 => 2
 | .e30 => 1
 | .e36 => 2
 | .e81 => 2
 | .e85 => 4
 | .e91 => 2
 | .e93 => 6
 | .e104 => 8
 | .e112 => 4
 | .e117 => 15
 | .e140 => 5
 | .e172 => 3
 | .e211 => 3
 | .e256 => 2
 | .no => 1
def enc_e3 (x : Int) : List (D A) := [.int .i64 x]
def dec_e3 (cs : List (D A)) : Option (Int) := match cs with | [c0] => (dInt .i64 c0).bind fun b1 => some b1 | _ => none
def enc_e4 (x : Bool) : List (D A) := [.bool x]
def dec_e4 (cs : List (D A)) : Option (Bool) := match cs with | [c0] => (dBool c0).bind fun b1 => some b1 | _ => none
def enc_e9 (x : List UInt8) : List (D A) := [.str x]
def dec_e9 (cs : List (D A)) : Option (List UInt8) := match cs with | [c0] => (dStr c0).bind fun b1 => some b1 | _ => none
def enc_e25 (x : G_Stream) : List (D A) := [.sl 3 x.f_L, .int .i64 x.f_at]
def dec_e25 (cs : List (D A)) : Option (G_Stream) := match cs with | [c0, c1] => (dSl 3 c0).bind fun b1 => (dInt .i64 c1).bind fun b2 => some ⟨b1, b2⟩ | _ => none
def enc_e30 (x : Int) : List (D A) := [.int .i64 x]
def dec_e30 (cs : List (D A)) : Option (Int) := match cs with | [c0] => (dInt .i64 c0).bind fun b1 => some b1 | _ => none
def enc_e36 (x : G_Row) : List (D A) := [.int .i64 x.f_From, .int .i64 x.f_To]
def dec_e36 (cs : List (D A)) : Option (G_Row) := match cs with | [c0, c1] => (dInt .i64 c0).bind fun b1 => (dInt .i64 c1).bind fun b2 => some ⟨b1, b2⟩ | _ => none
def enc_e81 (x : G_Club) : List (D A) := [.str x.f_Key, .sl 9 x.f_Squares]
def dec_e81 (cs : List (D A)) : Option (G_Club) := match cs with | [c0, c1] => (dStr c0).bind fun b1 => (dSl 9 c1).bind fun b2 => some ⟨b1, b2⟩ | _ => none
def enc_e85 (x : G_Member) : List (D A) := [.str x.f_Call, .str x.f_Club, .int .i64 x.f_Day, .str x.f_Locator]
def dec_e85 (cs : List (D A)) : Option (G_Member) := match cs with | [c0, c1, c2, c3] => (dStr c0).bind fun b1 => (dStr c1).bind fun b2 => (dInt .i64 c2).bind fun b3 => (dStr c3).bind fun b4 => some ⟨b1, b2, b3, b4⟩ | _ => none
def enc_e91 (x : G_Window) : List (D A) := [.int .i64 x.f_From, .int .i64 x.f_To]
def dec_e91 (cs : List (D A)) : Option (G_Window) := match cs with | [c0, c1] => (dInt .i64 c0).bind fun b1 => (dInt .i64 c1).bind fun b2 => some ⟨b1, b2⟩ | _ => none
def enc_e93 (x : G_Segment) : List (D A) := [.str x.f_Class, .int .i64 x.f_Low, .int .i64 x.f_High, .sl 3 x.f_Modes, .int .i64 x.f_Time.f_From, .int .i64 x.f_Time.f_To]
def dec_e93 (cs : List (D A)) : Option (G_Segment) := match cs with | [c0, c1, c2, c3, c4, c5] => (dStr c0).bind fun b1 => (dInt .i64 c1).bind fun b2 => (dInt .i64 c2).bind fun b3 => (dSl 3 c3).bind fun b4 => (dInt .i64 c4).bind fun b5 => (dInt .i64 c5).bind fun b6 => some ⟨b1, b2, b3, b4, ⟨b5, b6⟩⟩ | _ => none
def enc_e104 (x : G_Contact) : List (D A) := [.int .i64 x.f_At, .int .i64 x.f_Mode, .str x.f_Band, .str x.f_Call, .int .i64 x.f_Sent, .int .i64 x.f_Heard, .str x.f_Gave, .str x.f_Got]
def dec_e104 (cs : List (D A)) : Option (G_Contact) := match cs with | [c0, c1, c2, c3, c4, c5, c6, c7] => (dInt .i64 c0).bind fun b1 => (dInt .i64 c1).bind fun b2 => (dStr c2).bind fun b3 => (dStr c3).bind fun b4 => (dInt .i64 c4).bind fun b5 => (dInt .i64 c5).bind fun b6 => (dStr c6).bind fun b7 => (dStr c7).bind fun b8 => some ⟨b1, b2, b3, b4, b5, b6, b7, b8⟩ | _ => none
def enc_e112 (x : G_Entrant) : List (D A) := [.str x.f_Call, .str x.f_Category, .int .i64 x.f_Points, .str x.f_Locator]
def dec_e112 (cs : List (D A)) : Option (G_Entrant) := match cs with | [c0, c1, c2, c3] => (dStr c0).bind fun b1 => (dStr c1).bind fun b2 => (dInt .i64 c2).bind fun b3 => (dStr c3).bind fun b4 => some ⟨b1, b2, b3, b4⟩ | _ => none
def enc_e117 (x : G_Deed) : List (D A) := [.str x.f_Site, .int .i64 x.f_No, .int .i64 x.f_At, .int .i64 x.f_Kind, .int .i64 x.f_Contact.f_At, .int .i64 x.f_Contact.f_Mode, .str x.f_Contact.f_Band, .str x.f_Contact.f_Call, .int .i64 x.f_Contact.f_Sent, .int .i64 x.f_Contact.f_Heard, .str x.f_Contact.f_Gave, .str x.f_Contact.f_Got, .str x.f_Band, .str x.f_Of, .int .i64 x.f_Other]
def dec_e117 (cs : List (D A)) : Option (G_Deed) := match cs with | [c0, c1, c2, c3, c4, c5, c6, c7, c8, c9, c10, c11, c12, c13, c14] => (dStr c0).bind fun b1 => (dInt .i64 c1).bind fun b2 => (dInt .i64 c2).bind fun b3 => (dInt .i64 c3).bind fun b4 => (dInt .i64 c4).bind fun b5 => (dInt .i64 c5).bind fun b6 => (dStr c6).bind fun b7 => (dStr c7).bind fun b8 => (dInt .i64 c8).bind fun b9 => (dInt .i64 c9).bind fun b10 => (dStr c10).bind fun b11 => (dStr c11).bind fun b12 => (dStr c12).bind fun b13 => (dStr c13).bind fun b14 => (dInt .i64 c14).bind fun b15 => some ⟨b1, b2, b3, b4, ⟨b5, b6, b7, b8, b9, b10, b11, b12⟩, b13, b14, b15⟩ | _ => none
def enc_e140 (x : G_Parts) : List (D A) := [.str x.f_Base, .str x.f_Prefix, .str x.f_Suffix, .int .i64 x.f_Kind, .str x.f_Added]
def dec_e140 (cs : List (D A)) : Option (G_Parts) := match cs with | [c0, c1, c2, c3, c4] => (dStr c0).bind fun b1 => (dStr c1).bind fun b2 => (dStr c2).bind fun b3 => (dInt .i64 c3).bind fun b4 => (dStr c4).bind fun b5 => some ⟨b1, b2, b3, b4, b5⟩ | _ => none
def enc_e172 (x : G_Place) : List (D A) := [.int .i64 x.f_Rank, .int .i64 x.f_Points, .str x.f_Key]
def dec_e172 (cs : List (D A)) : Option (G_Place) := match cs with | [c0, c1, c2] => (dInt .i64 c0).bind fun b1 => (dInt .i64 c1).bind fun b2 => (dStr c2).bind fun b3 => some ⟨b1, b2, b3⟩ | _ => none
def enc_e211 (x : G_log_worked) : List (D A) := [.str x.f_base, .str x.f_band, .int .i64 x.f_mode]
def dec_e211 (cs : List (D A)) : Option (G_log_worked) := match cs with | [c0, c1, c2] => (dStr c0).bind fun b1 => (dStr c1).bind fun b2 => (dInt .i64 c2).bind fun b3 => some ⟨b1, b2, b3⟩ | _ => none
def enc_e256 (x : G_net_own) : List (D A) := [.str x.f_site, .int .i64 x.f_no]
def dec_e256 (cs : List (D A)) : Option (G_net_own) := match cs with | [c0, c1] => (dStr c0).bind fun b1 => (dInt .i64 c1).bind fun b2 => some ⟨b1, b2⟩ | _ => none
def encE : (k : El) → AE k → List (D A)
 | .e3, x => enc_e3 x
 | .e4, x => enc_e4 x
 | .e9, x => enc_e9 x
 | .e25, x => enc_e25 x
 | .e30, x => enc_e30 x
 | .e36, x => enc_e36 x
 | .e81, x => enc_e81 x
 | .e85, x => enc_e85 x
 | .e91, x => enc_e91 x
 | .e93, x => enc_e93 x
 | .e104, x => enc_e104 x
 | .e112, x => enc_e112 x
 | .e117, x => enc_e117 x
 | .e140, x => enc_e140 x
 | .e172, x => enc_e172 x
 | .e211, x => enc_e211 x
 | .e256, x => enc_e256 x
 | .no, _ => [.nilif]
def decE : (k : El) → List (D A) → Option (AE k)
 | .e3, cs => dec_e3 cs
 | .e4, cs => dec_e4 cs
 | .e9, cs => dec_e9 cs
 | .e25, cs => dec_e25 cs
 | .e30, cs => dec_e30 cs
 | .e36, cs => dec_e36 cs
 | .e81, cs => dec_e81 cs
 | .e85, cs => dec_e85 cs
 | .e91, cs => dec_e91 cs
 | .e93, cs => dec_e93 cs
 | .e104, cs => dec_e104 cs
 | .e112, cs => dec_e112 cs
 | .e117, cs => dec_e117 cs
 | .e140, cs => dec_e140 cs
 | .e172, cs => dec_e172 cs
 | .e211, cs => dec_e211 cs
 | .e256, cs => dec_e256 cs
 | .no, _ => none
def aggE : El → Bool
 | .e3 => false
 | .e4 => false
 | .e9 => false
 | .e25 => true
 | .e30 => false
 | .e36 => true
 | .e81 => true
 | .e85 => true
 | .e91 => true
 | .e93 => true
 | .e104 => true
 | .e112 => true
 | .e117 => true
 | .e140 => true
 | .e172 => true
 | .e211 => true
 | .e256 => true
 | .no => false
def T : Ty A where
 size := fun e => sizeE (el e)
 enc := fun e x => encE (el e) x
 dec := fun e cs => decE (el e) cs
 agg := fun e => aggE (el e)
theorem lenE : ∀ k x, (encE k x).length = sizeE k := by intro k x; cases k <;> rfl
theorem posE : ∀ k, 0 < sizeE k := by intro k; cases k <;> decide
theorem dok_e3 {U : Ty A} {cs : List (D A)} {x : Int} (h : dec_e3 cs = some x) : OkL U cs (enc_e3 x) := by
 unfold dec_e3 at h
 split at h
 ·simp only [Option.bind_eq_some_iff] at h
  obtain ⟨b1, h1, hx⟩ := h
  obtain rfl := Option.some.inj hx
  exact (.cons (gInt h1) .nil)
 ·cases h
theorem flt_e3 (x : Int) : (enc_e3 x).all D.plain = true := rfl
theorem dok_e4 {U : Ty A} {cs : List (D A)} {x : Bool} (h : dec_e4 cs = some x) : OkL U cs (enc_e4 x) := by
 unfold dec_e4 at h
 split at h
 ·simp only [Option.bind_eq_some_iff] at h
  obtain ⟨b1, h1, hx⟩ := h
  obtain rfl := Option.some.inj hx
  exact (.cons (gBool h1) .nil)
 ·cases h
theorem flt_e4 (x : Bool) : (enc_e4 x).all D.plain = true := rfl
theorem dok_e9 {U : Ty A} {cs : List (D A)} {x : List UInt8} (h : dec_e9 cs = some x) : OkL U cs (enc_e9 x) := by
 unfold dec_e9 at h
 split at h
 ·simp only [Option.bind_eq_some_iff] at h
  obtain ⟨b1, h1, hx⟩ := h
  obtain rfl := Option.some.inj hx
  exact (.cons (gStr h1) .nil)
 ·cases h
theorem flt_e9 (x : List UInt8) : (enc_e9 x).all D.plain = true := rfl
theorem dok_e25 {U : Ty A} {cs : List (D A)} {x : G_Stream} (h : dec_e25 cs = some x) : OkL U cs (enc_e25 x) := by
 unfold dec_e25 at h
 split at h
 ·simp only [Option.bind_eq_some_iff] at h
  obtain ⟨b1, h1, b2, h2, hx⟩ := h
  obtain rfl := Option.some.inj hx
  exact (.cons (gSl h1) (.cons (gInt h2) .nil))
 ·cases h
theorem dok_e30 {U : Ty A} {cs : List (D A)} {x : Int} (h : dec_e30 cs = some x) : OkL U cs (enc_e30 x) := by
 unfold dec_e30 at h
 split at h
 ·simp only [Option.bind_eq_some_iff] at h
  obtain ⟨b1, h1, hx⟩ := h
  obtain rfl := Option.some.inj hx
  exact (.cons (gInt h1) .nil)
 ·cases h
theorem flt_e30 (x : Int) : (enc_e30 x).all D.plain = true := rfl
theorem dok_e36 {U : Ty A} {cs : List (D A)} {x : G_Row} (h : dec_e36 cs = some x) : OkL U cs (enc_e36 x) := by
 unfold dec_e36 at h
 split at h
 ·simp only [Option.bind_eq_some_iff] at h
  obtain ⟨b1, h1, b2, h2, hx⟩ := h
  obtain rfl := Option.some.inj hx
  exact (.cons (gInt h1) (.cons (gInt h2) .nil))
 ·cases h
theorem flt_e36 (x : G_Row) : (enc_e36 x).all D.plain = true := rfl
theorem dok_e81 {U : Ty A} {cs : List (D A)} {x : G_Club} (h : dec_e81 cs = some x) : OkL U cs (enc_e81 x) := by
 unfold dec_e81 at h
 split at h
 ·simp only [Option.bind_eq_some_iff] at h
  obtain ⟨b1, h1, b2, h2, hx⟩ := h
  obtain rfl := Option.some.inj hx
  exact (.cons (gStr h1) (.cons (gSl h2) .nil))
 ·cases h
theorem dok_e85 {U : Ty A} {cs : List (D A)} {x : G_Member} (h : dec_e85 cs = some x) : OkL U cs (enc_e85 x) := by
 unfold dec_e85 at h
 split at h
 ·simp only [Option.bind_eq_some_iff] at h
  obtain ⟨b1, h1, b2, h2, b3, h3, b4, h4, hx⟩ := h
  obtain rfl := Option.some.inj hx
  exact (.cons (gStr h1) (.cons (gStr h2) (.cons (gInt h3) (.cons (gStr h4) .nil))))
 ·cases h
theorem flt_e85 (x : G_Member) : (enc_e85 x).all D.plain = true := rfl
theorem dok_e91 {U : Ty A} {cs : List (D A)} {x : G_Window} (h : dec_e91 cs = some x) : OkL U cs (enc_e91 x) := by
 unfold dec_e91 at h
 split at h
 ·simp only [Option.bind_eq_some_iff] at h
  obtain ⟨b1, h1, b2, h2, hx⟩ := h
  obtain rfl := Option.some.inj hx
  exact (.cons (gInt h1) (.cons (gInt h2) .nil))
 ·cases h
theorem flt_e91 (x : G_Window) : (enc_e91 x).all D.plain = true := rfl
theorem dok_e93 {U : Ty A} {cs : List (D A)} {x : G_Segment} (h : dec_e93 cs = some x) : OkL U cs (enc_e93 x) := by
 unfold dec_e93 at h
 split at h
 ·simp only [Option.bind_eq_some_iff] at h
  obtain ⟨b1, h1, b2, h2, b3, h3, b4, h4, b5, h5, b6, h6, hx⟩ := h
  obtain rfl := Option.some.inj hx
  exact (.cons (gStr h1) (.cons (gInt h2) (.cons (gInt h3) (.cons (gSl h4) (.cons (gInt h5) (.cons (gInt h6) .nil))))))
 ·cases h
theorem dok_e104 {U : Ty A} {cs : List (D A)} {x : G_Contact} (h : dec_e104 cs = some x) : OkL U cs (enc_e104 x) := by
 unfold dec_e104 at h
 split at h
 ·simp only [Option.bind_eq_some_iff] at h
  obtain ⟨b1, h1, b2, h2, b3, h3, b4, h4, b5, h5, b6, h6, b7, h7, b8, h8, hx⟩ := h
  obtain rfl := Option.some.inj hx
  exact (.cons (gInt h1) (.cons (gInt h2) (.cons (gStr h3) (.cons (gStr h4) (.cons (gInt h5) (.cons (gInt h6) (.cons (gStr h7) (.cons (gStr h8) .nil))))))))
 ·cases h
theorem flt_e104 (x : G_Contact) : (enc_e104 x).all D.plain = true := rfl
theorem dok_e112 {U : Ty A} {cs : List (D A)} {x : G_Entrant} (h : dec_e112 cs = some x) : OkL U cs (enc_e112 x) := by
 unfold dec_e112 at h
 split at h
 ·simp only [Option.bind_eq_some_iff] at h
  obtain ⟨b1, h1, b2, h2, b3, h3, b4, h4, hx⟩ := h
  obtain rfl := Option.some.inj hx
  exact (.cons (gStr h1) (.cons (gStr h2) (.cons (gInt h3) (.cons (gStr h4) .nil))))
 ·cases h
theorem flt_e112 (x : G_Entrant) : (enc_e112 x).all D.plain = true := rfl
theorem dok_e117 {U : Ty A} {cs : List (D A)} {x : G_Deed} (h : dec_e117 cs = some x) : OkL U cs (enc_e117 x) := by
 unfold dec_e117 at h
 split at h
 ·simp only [Option.bind_eq_some_iff] at h
  obtain ⟨b1, h1, b2, h2, b3, h3, b4, h4, b5, h5, b6, h6, b7, h7, b8, h8, b9, h9, b10, h10, b11, h11, b12, h12, b13, h13, b14, h14, b15, h15, hx⟩ := h
  obtain rfl := Option.some.inj hx
  exact (.cons (gStr h1) (.cons (gInt h2) (.cons (gInt h3) (.cons (gInt h4) (.cons (gInt h5) (.cons (gInt h6) (.cons (gStr h7) (.cons (gStr h8) (.cons (gInt h9) (.cons (gInt h10) (.cons (gStr h11) (.cons (gStr h12) (.cons (gStr h13) (.cons (gStr h14) (.cons (gInt h15) .nil)))))))))))))))
 ·cases h
theorem flt_e117 (x : G_Deed) : (enc_e117 x).all D.plain = true := rfl
theorem dok_e140 {U : Ty A} {cs : List (D A)} {x : G_Parts} (h : dec_e140 cs = some x) : OkL U cs (enc_e140 x) := by
 unfold dec_e140 at h
 split at h
 ·simp only [Option.bind_eq_some_iff] at h
  obtain ⟨b1, h1, b2, h2, b3, h3, b4, h4, b5, h5, hx⟩ := h
  obtain rfl := Option.some.inj hx
  exact (.cons (gStr h1) (.cons (gStr h2) (.cons (gStr h3) (.cons (gInt h4) (.cons (gStr h5) .nil)))))
 ·cases h
theorem flt_e140 (x : G_Parts) : (enc_e140 x).all D.plain = true := rfl
theorem dok_e172 {U : Ty A} {cs : List (D A)} {x : G_Place} (h : dec_e172 cs = some x) : OkL U cs (enc_e172 x) := by
 unfold dec_e172 at h
 split at h
 ·simp only [Option.bind_eq_some_iff] at h
  obtain ⟨b1, h1, b2, h2, b3, h3, hx⟩ := h
  obtain rfl := Option.some.inj hx
  exact (.cons (gInt h1) (.cons (gInt h2) (.cons (gStr h3) .nil)))
 ·cases h
theorem flt_e172 (x : G_Place) : (enc_e172 x).all D.plain = true := rfl
theorem dok_e211 {U : Ty A} {cs : List (D A)} {x : G_log_worked} (h : dec_e211 cs = some x) : OkL U cs (enc_e211 x) := by
 unfold dec_e211 at h
 split at h
 ·simp only [Option.bind_eq_some_iff] at h
  obtain ⟨b1, h1, b2, h2, b3, h3, hx⟩ := h
  obtain rfl := Option.some.inj hx
  exact (.cons (gStr h1) (.cons (gStr h2) (.cons (gInt h3) .nil)))
 ·cases h
theorem flt_e211 (x : G_log_worked) : (enc_e211 x).all D.plain = true := rfl
theorem dok_e256 {U : Ty A} {cs : List (D A)} {x : G_net_own} (h : dec_e256 cs = some x) : OkL U cs (enc_e256 x) := by
 unfold dec_e256 at h
 split at h
 ·simp only [Option.bind_eq_some_iff] at h
  obtain ⟨b1, h1, b2, h2, hx⟩ := h
  obtain rfl := Option.some.inj hx
  exact (.cons (gStr h1) (.cons (gInt h2) .nil))
 ·cases h
theorem flt_e256 (x : G_net_own) : (enc_e256 x).all D.plain = true := rfl
def TD : Ty A := T.day
theorem decOk {U : Ty A} : ∀ k cs x, decE k cs = some x → OkL U cs (encE k x) := by
 intro k cs x h
 cases k
 case e3 => exact dok_e3 h
 case e4 => exact dok_e4 h
 case e9 => exact dok_e9 h
 case e25 => exact dok_e25 h
 case e30 => exact dok_e30 h
 case e36 => exact dok_e36 h
 case e81 => exact dok_e81 h
 case e85 => exact dok_e85 h
 case e91 => exact dok_e91 h
 case e93 => exact dok_e93 h
 case e104 => exact dok_e104 h
 case e112 => exact dok_e112 h
 case e117 => exact dok_e117 h
 case e140 => exact dok_e140 h
 case e172 => exact dok_e172 h
 case e211 => exact dok_e211 h
 case e256 => exact dok_e256 h
 case no => cases h
theorem tyOkD (P : Program) : TyOk P TD := ⟨fun e x => lenE (el e) x, fun e => posE (el e), fun e cs x h => by
 obtain ⟨h1, h2⟩ := decOk (U := TD) (el e) cs x h
 exact ⟨h1.trans (lenE (el e) x), h2⟩⟩
theorem tyOk (P : Program) : TyOk P T := ⟨fun e x => lenE (el e) x, fun e => posE (el e), fun e cs x h => by
 obtain ⟨h1, h2⟩ := decOk (el e) cs x h
 exact ⟨h1.trans (lenE (el e) x), h2⟩⟩
def flatE : El → Bool
 | .e3 => true
 | .e4 => true
 | .e9 => true
 | .e25 => false
 | .e30 => true
 | .e36 => true
 | .e81 => false
 | .e85 => true
 | .e91 => true
 | .e93 => false
 | .e104 => true
 | .e112 => true
 | .e117 => true
 | .e140 => true
 | .e172 => true
 | .e211 => true
 | .e256 => true
 | .no => false
def flatT (e : Nat) : Bool := flatE (el e)
theorem flatEOk : ∀ k, flatE k = true → ∀ x d, d ∈ encE k x → D.plain d = true := by
 intro k h x d hd
 cases k
 case e3 => exact List.all_eq_true.1 (flt_e3 x) d hd
 case e4 => exact List.all_eq_true.1 (flt_e4 x) d hd
 case e9 => exact List.all_eq_true.1 (flt_e9 x) d hd
 case e25 => cases h
 case e30 => exact List.all_eq_true.1 (flt_e30 x) d hd
 case e36 => exact List.all_eq_true.1 (flt_e36 x) d hd
 case e81 => cases h
 case e85 => exact List.all_eq_true.1 (flt_e85 x) d hd
 case e91 => exact List.all_eq_true.1 (flt_e91 x) d hd
 case e93 => cases h
 case e104 => exact List.all_eq_true.1 (flt_e104 x) d hd
 case e112 => exact List.all_eq_true.1 (flt_e112 x) d hd
 case e117 => exact List.all_eq_true.1 (flt_e117 x) d hd
 case e140 => exact List.all_eq_true.1 (flt_e140 x) d hd
 case e172 => exact List.all_eq_true.1 (flt_e172 x) d hd
 case e211 => exact List.all_eq_true.1 (flt_e211 x) d hd
 case e256 => exact List.all_eq_true.1 (flt_e256 x) d hd
 case no => cases h
def eq_G_Contact (x y : G_Contact) : Bool := (x.f_At == y.f_At && (x.f_Mode == y.f_Mode && (x.f_Band == y.f_Band && (x.f_Call == y.f_Call && (x.f_Sent == y.f_Sent && (x.f_Heard == y.f_Heard && (x.f_Gave == y.f_Gave && (x.f_Got == y.f_Got && true))))))))
def mget_int_int (x : Int) (m : List (Int × Int)) : Option Int := getM T 3 3 x m
def mdel_int_int (x : Int) (m : List (Int × Int)) : List (Int × Int) := delM T 3 3 x m
def mset_int_int (x : Int) (y : Int) (m : List (Int × Int)) : List (Int × Int) := setM T 3 3 x y m
def keq_int (x y : Int) : Bool := (x == y && true)
theorem mget_int_int_nil (x : Int) : mget_int_int x [] = none := by kernel_rfl
theorem mget_int_int_cons (x : Int) (p : Int × Int) (m : List (Int × Int)) : mget_int_int x (p :: m) = bif keq_int x p.1 then some p.2 else mget_int_int x m := by kernel_rfl
theorem mdel_int_int_nil (x : Int) : mdel_int_int x [] = [] := by kernel_rfl
theorem mdel_int_int_cons (x : Int) (p : Int × Int) (m : List (Int × Int)) : mdel_int_int x (p :: m) = bif keq_int x p.1 then m else p :: mdel_int_int x m := by kernel_rfl
theorem mset_int_int_nil (x : Int) (y : Int) : mset_int_int x y [] = [(x, y)] := by kernel_rfl
theorem mset_int_int_cons (x : Int) (y : Int) (p : Int × Int) (m : List (Int × Int)) : mset_int_int x y (p :: m) = bif keq_int x p.1 then (x, y) :: m else p :: mset_int_int x y m := by kernel_rfl
def mget_string_Member (x : List UInt8) (m : List (List UInt8 × G_Member)) : Option G_Member := getM T 9 85 x m
def mdel_string_Member (x : List UInt8) (m : List (List UInt8 × G_Member)) : List (List UInt8 × G_Member) := delM T 9 85 x m
def mset_string_Member (x : List UInt8) (y : G_Member) (m : List (List UInt8 × G_Member)) : List (List UInt8 × G_Member) := setM T 9 85 x y m
def keq_string (x y : List UInt8) : Bool := (x == y && true)
theorem mget_string_Member_nil (x : List UInt8) : mget_string_Member x [] = none := by kernel_rfl
theorem mget_string_Member_cons (x : List UInt8) (p : List UInt8 × G_Member) (m : List (List UInt8 × G_Member)) : mget_string_Member x (p :: m) = bif keq_string x p.1 then some p.2 else mget_string_Member x m := by kernel_rfl
theorem mdel_string_Member_nil (x : List UInt8) : mdel_string_Member x [] = [] := by kernel_rfl
theorem mdel_string_Member_cons (x : List UInt8) (p : List UInt8 × G_Member) (m : List (List UInt8 × G_Member)) : mdel_string_Member x (p :: m) = bif keq_string x p.1 then m else p :: mdel_string_Member x m := by kernel_rfl
theorem mset_string_Member_nil (x : List UInt8) (y : G_Member) : mset_string_Member x y [] = [(x, y)] := by kernel_rfl
theorem mset_string_Member_cons (x : List UInt8) (y : G_Member) (p : List UInt8 × G_Member) (m : List (List UInt8 × G_Member)) : mset_string_Member x y (p :: m) = bif keq_string x p.1 then (x, y) :: m else p :: mset_string_Member x y m := by kernel_rfl
def mget_Contact_Deed (x : G_Contact) (m : List (G_Contact × G_Deed)) : Option G_Deed := getM T 104 117 x m
def mdel_Contact_Deed (x : G_Contact) (m : List (G_Contact × G_Deed)) : List (G_Contact × G_Deed) := delM T 104 117 x m
def mset_Contact_Deed (x : G_Contact) (y : G_Deed) (m : List (G_Contact × G_Deed)) : List (G_Contact × G_Deed) := setM T 104 117 x y m
def keq_Contact (x y : G_Contact) : Bool := (x.f_At == y.f_At && (x.f_Mode == y.f_Mode && (x.f_Band == y.f_Band && (x.f_Call == y.f_Call && (x.f_Sent == y.f_Sent && (x.f_Heard == y.f_Heard && (x.f_Gave == y.f_Gave && (x.f_Got == y.f_Got && true))))))))
theorem mget_Contact_Deed_nil (x : G_Contact) : mget_Contact_Deed x [] = none := by kernel_rfl
theorem mget_Contact_Deed_cons (x : G_Contact) (p : G_Contact × G_Deed) (m : List (G_Contact × G_Deed)) : mget_Contact_Deed x (p :: m) = bif keq_Contact x p.1 then some p.2 else mget_Contact_Deed x m := by kernel_rfl
theorem mdel_Contact_Deed_nil (x : G_Contact) : mdel_Contact_Deed x [] = [] := by kernel_rfl
theorem mdel_Contact_Deed_cons (x : G_Contact) (p : G_Contact × G_Deed) (m : List (G_Contact × G_Deed)) : mdel_Contact_Deed x (p :: m) = bif keq_Contact x p.1 then m else p :: mdel_Contact_Deed x m := by kernel_rfl
theorem mset_Contact_Deed_nil (x : G_Contact) (y : G_Deed) : mset_Contact_Deed x y [] = [(x, y)] := by kernel_rfl
theorem mset_Contact_Deed_cons (x : G_Contact) (y : G_Deed) (p : G_Contact × G_Deed) (m : List (G_Contact × G_Deed)) : mset_Contact_Deed x y (p :: m) = bif keq_Contact x p.1 then (x, y) :: m else p :: mset_Contact_Deed x y m := by kernel_rfl
def mget_log_worked_bool (x : G_log_worked) (m : List (G_log_worked × Bool)) : Option Bool := getM T 211 4 x m
def mdel_log_worked_bool (x : G_log_worked) (m : List (G_log_worked × Bool)) : List (G_log_worked × Bool) := delM T 211 4 x m
def mset_log_worked_bool (x : G_log_worked) (y : Bool) (m : List (G_log_worked × Bool)) : List (G_log_worked × Bool) := setM T 211 4 x y m
def keq_log_worked (x y : G_log_worked) : Bool := (x.f_base == y.f_base && (x.f_band == y.f_band && (x.f_mode == y.f_mode && true)))
theorem mget_log_worked_bool_nil (x : G_log_worked) : mget_log_worked_bool x [] = none := by kernel_rfl
theorem mget_log_worked_bool_cons (x : G_log_worked) (p : G_log_worked × Bool) (m : List (G_log_worked × Bool)) : mget_log_worked_bool x (p :: m) = bif keq_log_worked x p.1 then some p.2 else mget_log_worked_bool x m := by kernel_rfl
theorem mdel_log_worked_bool_nil (x : G_log_worked) : mdel_log_worked_bool x [] = [] := by kernel_rfl
theorem mdel_log_worked_bool_cons (x : G_log_worked) (p : G_log_worked × Bool) (m : List (G_log_worked × Bool)) : mdel_log_worked_bool x (p :: m) = bif keq_log_worked x p.1 then m else p :: mdel_log_worked_bool x m := by kernel_rfl
theorem mset_log_worked_bool_nil (x : G_log_worked) (y : Bool) : mset_log_worked_bool x y [] = [(x, y)] := by kernel_rfl
theorem mset_log_worked_bool_cons (x : G_log_worked) (y : Bool) (p : G_log_worked × Bool) (m : List (G_log_worked × Bool)) : mset_log_worked_bool x y (p :: m) = bif keq_log_worked x p.1 then (x, y) :: m else p :: mset_log_worked_bool x y m := by kernel_rfl
def mget_net_own_bool (x : G_net_own) (m : List (G_net_own × Bool)) : Option Bool := getM T 256 4 x m
def mdel_net_own_bool (x : G_net_own) (m : List (G_net_own × Bool)) : List (G_net_own × Bool) := delM T 256 4 x m
def mset_net_own_bool (x : G_net_own) (y : Bool) (m : List (G_net_own × Bool)) : List (G_net_own × Bool) := setM T 256 4 x y m
def keq_net_own (x y : G_net_own) : Bool := (x.f_site == y.f_site && (x.f_no == y.f_no && true))
theorem mget_net_own_bool_nil (x : G_net_own) : mget_net_own_bool x [] = none := by kernel_rfl
theorem mget_net_own_bool_cons (x : G_net_own) (p : G_net_own × Bool) (m : List (G_net_own × Bool)) : mget_net_own_bool x (p :: m) = bif keq_net_own x p.1 then some p.2 else mget_net_own_bool x m := by kernel_rfl
theorem mdel_net_own_bool_nil (x : G_net_own) : mdel_net_own_bool x [] = [] := by kernel_rfl
theorem mdel_net_own_bool_cons (x : G_net_own) (p : G_net_own × Bool) (m : List (G_net_own × Bool)) : mdel_net_own_bool x (p :: m) = bif keq_net_own x p.1 then m else p :: mdel_net_own_bool x m := by kernel_rfl
theorem mset_net_own_bool_nil (x : G_net_own) (y : Bool) : mset_net_own_bool x y [] = [(x, y)] := by kernel_rfl
theorem mset_net_own_bool_cons (x : G_net_own) (y : Bool) (p : G_net_own × Bool) (m : List (G_net_own × Bool)) : mset_net_own_bool x y (p :: m) = bif keq_net_own x p.1 then (x, y) :: m else p :: mset_net_own_bool x y m := by kernel_rfl
theorem ko_3x (x p : Int) : eqT Tryz.prog 64 3 (packAV T 3 x) (packAV T 3 p) = some ((x : Int) == (p : Int)) := by kernel_rfl
theorem ko_3y (x p : Int) : some (eqDs (T.enc 3 x) (T.enc 3 p)) = some ((x == p) && true) := by kernel_rfl
theorem ko_3z (x p : Int) : eqT Tryz.prog 64 3 (packAV T 3 x) (packAV T 3 p) = some (eqDs (T.enc 3 x) (T.enc 3 p)) := (ko_3x x p).trans (((congrArg some (Bool.and_true (x == p))).symm).trans (ko_3y x p).symm)
theorem ko_3 : KeyOk Tryz.prog T 3 := fun x p => ko_3z x p
theorem kd_3 : ∃ kd, Tryz.prog.underlying 3 = some kd := Option.isSome_iff_exists.1 (by kernel_rfl)
theorem ko_9x (x p : List UInt8) : eqT Tryz.prog 64 9 (packAV T 9 x) (packAV T 9 p) = some ((x : List UInt8) == (p : List UInt8)) := by kernel_rfl
theorem ko_9y (x p : List UInt8) : some (eqDs (T.enc 9 x) (T.enc 9 p)) = some ((x == p) && true) := by kernel_rfl
theorem ko_9z (x p : List UInt8) : eqT Tryz.prog 64 9 (packAV T 9 x) (packAV T 9 p) = some (eqDs (T.enc 9 x) (T.enc 9 p)) := (ko_9x x p).trans (((congrArg some (Bool.and_true (x == p))).symm).trans (ko_9y x p).symm)
theorem ko_9 : KeyOk Tryz.prog T 9 := fun x p => ko_9z x p
theorem kd_9 : ∃ kd, Tryz.prog.underlying 9 = some kd := Option.isSome_iff_exists.1 (by kernel_rfl)
theorem ko_104x (x p : G_Contact) : eqT Tryz.prog 64 104 (packAV T 104 x) (packAV T 104 p) = some (eqDs (T.enc 104 x) (T.enc 104 p)) := by kernel_rfl
theorem ko_104 : KeyOk Tryz.prog T 104 := by
 intro x p
 exact ko_104x x p
theorem kd_104 : ∃ kd, Tryz.prog.underlying 104 = some kd := Option.isSome_iff_exists.1 (by kernel_rfl)
theorem ko_211x (x p : G_log_worked) : eqT Tryz.prog 64 211 (packAV T 211 x) (packAV T 211 p) = some (eqDs (T.enc 211 x) (T.enc 211 p)) := by kernel_rfl
theorem ko_211 : KeyOk Tryz.prog T 211 := by
 intro x p
 exact ko_211x x p
theorem kd_211 : ∃ kd, Tryz.prog.underlying 211 = some kd := Option.isSome_iff_exists.1 (by kernel_rfl)
theorem ko_256x (x p : G_net_own) : eqT Tryz.prog 64 256 (packAV T 256 x) (packAV T 256 p) = some (eqDs (T.enc 256 x) (T.enc 256 p)) := by kernel_rfl
theorem ko_256 : KeyOk Tryz.prog T 256 := by
 intro x p
 exact ko_256x x p
theorem kd_256 : ∃ kd, Tryz.prog.underlying 256 = some kd := Option.isSome_iff_exists.1 (by kernel_rfl)
def keyT (k : Nat) : Bool := k == 3 || k == 9 || k == 104 || k == 211 || k == 256
theorem keysOk : ∀ k, keyT k = true → KeyOk Tryz.prog T k ∧ ∃ kd, Tryz.prog.underlying k = some kd := by
 intro k h
 simp only [keyT, Bool.or_eq_true, beq_iff_eq] at h
 rcases h with (((rfl | rfl) | rfl) | rfl) | rfl
 ·exact ⟨ko_3, kd_3⟩
 ·exact ⟨ko_9, kd_9⟩
 ·exact ⟨ko_104, kd_104⟩
 ·exact ⟨ko_211, kd_211⟩
 ·exact ⟨ko_256, kd_256⟩
theorem flatOk : FlatOk T flatT := fun e h x d hd => flatEOk (el e) h x d hd
theorem spo_94 : SpOk Tryz.prog T 94 (.wrap 144 true) := spWrapM (M := 149) (enters_of (fn := Tryz.f94) Tryz.func94 (by kernel_rfl) (by kernel_rfl)) fun mb w => (callsIn_wide (n := 5)).1 (Go.Proofs.AnyZ.keys_in Tryz.keys94 Fence.wide 5 trivial rfl mb w)
def srtK9 : List (List UInt8) → Option (List (List UInt8)) := ordS (A := A) (k := 9) (fun x => x) (fun x => x)
theorem sorts_93 (m : Nat) : Go.Proofs.AnyZ.SortsIn Tryz.prog Tryz.sorted93_ren Fence.wide m :=
 ⟨fun blk off cap ss W hH hblk hsz => callsIn_wide.2 (Go.Proofs.AnyM.slices_Sort_string Tryz.sort143 blk off cap ss W hH hblk hsz), fun p cap W => callsIn_wide.2 (Go.Proofs.AnyM.slices_Sort_string_none Tryz.sort143 p cap W)⟩
theorem hk_93_144 : KeysHc Tryz.prog 9 93 144 := fun b nn B D0 R w hown hmax hbytes hm hB =>
 (callsIn_wide (n := 5)).1 (Go.Proofs.AnyZ.sorted_in Tryz.sorted93 Fence.wide 5 trivial trivial trivial trivial rfl (by omega) (sorts_93 _) (enters_of Tryz.func143 (by kernel_rfl) rfl) 144 #[.pointer (some ⟨B, 0, none⟩)] trivial (enters_of Tryz.func144 (by kernel_rfl) rfl) _ _ hmax hbytes _
  (Go.Proofs.AnyZ.keys_gives (ρ := Tryz.keys94_ren) { Tryz.keys94 with } Fence.wide _ trivial rfl (by omega) B b nn D0 _ hB hm hown))
theorem spo_93 : SpOk Tryz.prog T 93 (.keys [144] 9 srtK9) := spKeys (A := A) (T := T) (k := 9) rfl (fun x => x) (fun x => x) (fun _ => rfl) (fun _ => rfl) rfl rfl Tryz.underlying9 (enters_of (fn := Tryz.f93) Tryz.func93 (by kernel_rfl) (by kernel_rfl)) (by intro q hq; rw [List.mem_singleton] at hq; subst hq <;> first | exact hk_93_144)
def spT : List (Nat × Sp A) := [(93, .keys [144] 9 srtK9), (94, .wrap 144 true)]
theorem spAll : SpAll Tryz.prog T spT := .cons spo_93 (.cons spo_94 (.nil))
theorem std : Std Tryz.prog T keyT flatT (fun f => spT.lookup f) := ⟨tyOk Tryz.prog, flatOk, keysOk, spAll.ok, by kernel_rfl⟩
abbrev Ok (f : Nat) (S : Spec A) : Prop := OkF Tryz.prog T f S
theorem stdD : Std Tryz.prog TD keyT flatT (fun _ => none) := ⟨tyOkD Tryz.prog, fun e h x d hd => flatEOk (el e) h x d hd, keysOk, fun _ _ h => (by cases h), by kernel_rfl⟩
abbrev OkD (f : Nat) (S : Spec A) : Prop := OkF Tryz.prog TD f S
noncomputable def mkE (C : List (Nat × Spec A)) (tg : List (Nat × List Nat)) (lh xh : List (Nat × Hint)) (cl : List (Nat × Piece A)) (sh xs : List (Nat × Hint)) (cs : List (Nat × Piece A)) (md : List (Nat × Nat)) (pin : List Nat) : Env A :=
 { P := Tryz.prog, T := T, C := fun f => C.lookup f, tg := fun d => (tg.lookup d).getD [], seqH := fun i => sh.lookup i, loopH := fun i => lh.lookup i, exitH := fun i => xh.lookup i, exitS := fun i => xs.lookup i, cutS := fun i => cs.lookup i, cutL := fun i => cl.lookup i, mode := fun f i => md.contains (f, i), sp := fun f => spT.lookup f, keyed := keyT, flat := flatT, pin := pin }
noncomputable def mkED (C : List (Nat × Spec A)) (tg : List (Nat × List Nat)) (lh xh : List (Nat × Hint)) (cl : List (Nat × Piece A)) (sh xs : List (Nat × Hint)) (cs : List (Nat × Piece A)) (md : List (Nat × Nat)) (pin : List Nat) : Env A :=
 { P := Tryz.prog, T := TD, C := fun f => C.lookup f, tg := fun d => (tg.lookup d).getD [], seqH := fun i => sh.lookup i, loopH := fun i => lh.lookup i, exitH := fun i => xh.lookup i, exitS := fun i => xs.lookup i, cutS := fun i => cs.lookup i, cutL := fun i => cl.lookup i, mode := fun f i => md.contains (f, i), keyed := keyT, flat := flatT, pin := pin }
end Go.Am
