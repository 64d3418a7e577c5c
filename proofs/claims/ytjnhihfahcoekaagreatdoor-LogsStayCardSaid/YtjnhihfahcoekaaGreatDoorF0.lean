/- The functions of the program as Lean functions, each shown to be what the code computes, part 0. No condition: lemmas for the claim. -/
import Derived.Test.YtjnhihfahcoekaaGreatDoorAmPrint
import Derived.Test.YtjnhihfahcoekaaGreatDoorAmIn
import Derived.Test.YtjnhihfahcoekaaGreatDoorProg
import Derived.KernelRfl
set_option linter.unusedVariables false
set_option maxRecDepth 100000
namespace Go.Am
open Go Go.Proofs
structure G_Stream where
 f_L : List Int
 f_at : Int
 deriving DecidableEq
structure G_Contact where
 f_At : Int
 f_Mode : Int
 f_Band : List UInt8
 f_Call : List UInt8
 f_Sent : Int
 f_Heard : Int
 f_Gave : List UInt8
 f_Got : List UInt8
 deriving DecidableEq
structure G_Change where
 f_No : Int
 f_Kind : Int
 f_Was : G_Contact
 f_Is : G_Contact
 deriving DecidableEq
structure G_Window where
 f_From : Int
 f_To : Int
 deriving DecidableEq
structure G_Segment where
 f_Class : List UInt8
 f_Low : Int
 f_High : Int
 f_Modes : List Int
 f_Time : G_Window
 deriving DecidableEq
structure G_Entrant where
 f_Call : List UInt8
 f_Category : List UInt8
 f_Points : Int
 f_Locator : List UInt8
 deriving DecidableEq
structure G_Deed where
 f_Site : List UInt8
 f_No : Int
 f_At : Int
 f_Kind : Int
 f_Contact : G_Contact
 f_Band : List UInt8
 f_Of : List UInt8
 f_Other : Int
 deriving DecidableEq
structure G_Row where
 f_From : Int
 f_To : Int
 deriving DecidableEq
structure G_Place where
 f_Rank : Int
 f_Points : Int
 f_Key : List UInt8
 deriving DecidableEq
structure G_log_worked where
 f_base : List UInt8
 f_band : List UInt8
 f_mode : Int
 deriving DecidableEq
structure G_Parts where
 f_Base : List UInt8
 f_Prefix : List UInt8
 f_Suffix : List UInt8
 f_Kind : Int
 f_Added : List UInt8
 deriving DecidableEq
structure G_net_own where
 f_site : List UInt8
 f_no : Int
 deriving DecidableEq
inductive El where
 | e3 | e4 | e9 | e25 | e26 | e30 | e35 | e42 | e67 | e69 | e75 | e80 | e101 | e109 | e132 | e149 | e176 | no
def el : Nat → El
 | 3 => .e3
 | 4 => .e4
 | 9 => .e9
 | 25 => .e25
 | 26 => .e26
 | 30 => .e30
 | 35 => .e35
 | 42 => .e42
 | 67 => .e67
 | 69 => .e69
 | 75 => .e75
 | 80 => .e80
 | 101 => .e101
 | 109 => .e109
 | 132 => .e132
 | 149 => .e149
 | 176 => .e176
 | _ => .no
def AE : El → Type
 | .e3 => Int
 | .e4 => Bool
 | .e9 => List UInt8
 | .e25 => G_Stream
 | .e26 => List G_Contact
 | .e30 => Int
 | .e35 => G_Contact
 | .e42 => G_Change
 | .e67 => G_Window
 | .e69 => G_Segment
 | .e75 => G_Entrant
 | .e80 => G_Deed
 | .e101 => G_Row
 | .e109 => G_Place
 | .e132 => G_log_worked
 | .e149 => G_Parts
 | .e176 => G_net_own
 | .no => Unit
abbrev A (e : Nat) : Type := AE (el e)
def sizeE : El → Nat
 | .e3 => 1
 | .e4 => 1
 | .e9 => 1
 | .e25 => 2
 | .e26 => 1
 | .e30 => 1
 | .e35 => 8
 | .e42 => 18
 | .e67 => 2
 | .e69 => 6
 | .e75 => 4
 | .e80 => 15
 | .e101 => 2
 | .e109 => 3
 | .e132 => 3
 | .e149 => 5
 | .e176 => 2
 | .no => 1
def enc_e3 (x : Int) : List (D A) := [.int .i64 x]
def dec_e3 (cs : List (D A)) : Option (Int) := match cs with | [c0] => (dInt .i64 c0).bind fun b1 => some b1 | _ => none
def enc_e4 (x : Bool) : List (D A) := [.bool x]
def dec_e4 (cs : List (D A)) : Option (Bool) := match cs with | [c0] => (dBool c0).bind fun b1 => some b1 | _ => none
def enc_e9 (x : List UInt8) : List (D A) := [.str x]
def dec_e9 (cs : List (D A)) : Option (List UInt8) := match cs with | [c0] => (dStr c0).bind fun b1 => some b1 | _ => none
def enc_e25 (x : G_Stream) : List (D A) := [.sl 3 x.f_L, .int .i64 x.f_at]
def dec_e25 (cs : List (D A)) : Option (G_Stream) := match cs with | [c0, c1] => (dSl 3 c0).bind fun b1 => (dInt .i64 c1).bind fun b2 => some ⟨b1, b2⟩ | _ => none
def enc_e26 (x : List G_Contact) : List (D A) := [.sl 35 x]
def dec_e26 (cs : List (D A)) : Option (List G_Contact) := match cs with | [c0] => (dSl 35 c0).bind fun b1 => some b1 | _ => none
def enc_e30 (x : Int) : List (D A) := [.int .i64 x]
def dec_e30 (cs : List (D A)) : Option (Int) := match cs with | [c0] => (dInt .i64 c0).bind fun b1 => some b1 | _ => none
def enc_e35 (x : G_Contact) : List (D A) := [.int .i64 x.f_At, .int .i64 x.f_Mode, .str x.f_Band, .str x.f_Call, .int .i64 x.f_Sent, .int .i64 x.f_Heard, .str x.f_Gave, .str x.f_Got]
def dec_e35 (cs : List (D A)) : Option (G_Contact) := match cs with | [c0, c1, c2, c3, c4, c5, c6, c7] => (dInt .i64 c0).bind fun b1 => (dInt .i64 c1).bind fun b2 => (dStr c2).bind fun b3 => (dStr c3).bind fun b4 => (dInt .i64 c4).bind fun b5 => (dInt .i64 c5).bind fun b6 => (dStr c6).bind fun b7 => (dStr c7).bind fun b8 => some ⟨b1, b2, b3, b4, b5, b6, b7, b8⟩ | _ => none
def enc_e42 (x : G_Change) : List (D A) := [.int .i64 x.f_No, .int .i64 x.f_Kind, .int .i64 x.f_Was.f_At, .int .i64 x.f_Was.f_Mode, .str x.f_Was.f_Band, .str x.f_Was.f_Call, .int .i64 x.f_Was.f_Sent, .int .i64 x.f_Was.f_Heard, .str x.f_Was.f_Gave, .str x.f_Was.f_Got, .int .i64 x.f_Is.f_At, .int .i64 x.f_Is.f_Mode, .str x.f_Is.f_Band, .str x.f_Is.f_Call, .int .i64 x.f_Is.f_Sent, .int .i64 x.f_Is.f_Heard, .str x.f_Is.f_Gave, .str x.f_Is.f_Got]
def dec_e42 (cs : List (D A)) : Option (G_Change) := match cs with | [c0, c1, c2, c3, c4, c5, c6, c7, c8, c9, c10, c11, c12, c13, c14, c15, c16, c17] => (dInt .i64 c0).bind fun b1 => (dInt .i64 c1).bind fun b2 => (dInt .i64 c2).bind fun b3 => (dInt .i64 c3).bind fun b4 => (dStr c4).bind fun b5 => (dStr c5).bind fun b6 => (dInt .i64 c6).bind fun b7 => (dInt .i64 c7).bind fun b8 => (dStr c8).bind fun b9 => (dStr c9).bind fun b10 => (dInt .i64 c10).bind fun b11 => (dInt .i64 c11).bind fun b12 => (dStr c12).bind fun b13 => (dStr c13).bind fun b14 => (dInt .i64 c14).bind fun b15 => (dInt .i64 c15).bind fun b16 => (dStr c16).bind fun b17 => (dStr c17).bind fun b18 => some ⟨b1, b2, ⟨b3, b4, b5, b6, b7, b8, b9, b10⟩, ⟨b11, b12, b13, b14, b15, b16, b17, b18⟩⟩ | _ => none
def enc_e67 (x : G_Window) : List (D A) := [.int .i64 x.f_From, .int .i64 x.f_To]
def dec_e67 (cs : List (D A)) : Option (G_Window) := match cs with | [c0, c1] => (dInt .i64 c0).bind fun b1 => (dInt .i64 c1).bind fun b2 => some ⟨b1, b2⟩ | _ => none
def enc_e69 (x : G_Segment) : List (D A) := [.str x.f_Class, .int .i64 x.f_Low, .int .i64 x.f_High, .sl 3 x.f_Modes, .int .i64 x.f_Time.f_From, .int .i64 x.f_Time.f_To]
def dec_e69 (cs : List (D A)) : Option (G_Segment) := match cs with | [c0, c1, c2, c3, c4, c5] => (dStr c0).bind fun b1 => (dInt .i64 c1).bind fun b2 => (dInt .i64 c2).bind fun b3 => (dSl 3 c3).bind fun b4 => (dInt .i64 c4).bind fun b5 => (dInt .i64 c5).bind fun b6 => some ⟨b1, b2, b3, b4, ⟨b5, b6⟩⟩ | _ => none
def enc_e75 (x : G_Entrant) : List (D A) := [.str x.f_Call, .str x.f_Category, .int .i64 x.f_Points, .str x.f_Locator]
def dec_e75 (cs : List (D A)) : Option (G_Entrant) := match cs with | [c0, c1, c2, c3] => (dStr c0).bind fun b1 => (dStr c1).bind fun b2 => (dInt .i64 c2).bind fun b3 => (dStr c3).bind fun b4 => some ⟨b1, b2, b3, b4⟩ | _ => none
def enc_e80 (x : G_Deed) : List (D A) := [.str x.f_Site, .int .i64 x.f_No, .int .i64 x.f_At, .int .i64 x.f_Kind, .int .i64 x.f_Contact.f_At, .int .i64 x.f_Contact.f_Mode, .str x.f_Contact.f_Band, .str x.f_Contact.f_Call, .int .i64 x.f_Contact.f_Sent, .int .i64 x.f_Contact.f_Heard, .str x.f_Contact.f_Gave, .str x.f_Contact.f_Got, .str x.f_Band, .str x.f_Of, .int .i64 x.f_Other]
def dec_e80 (cs : List (D A)) : Option (G_Deed) := match cs with | [c0, c1, c2, c3, c4, c5, c6, c7, c8, c9, c10, c11, c12, c13, c14] => (dStr c0).bind fun b1 => (dInt .i64 c1).bind fun b2 => (dInt .i64 c2).bind fun b3 => (dInt .i64 c3).bind fun b4 => (dInt .i64 c4).bind fun b5 => (dInt .i64 c5).bind fun b6 => (dStr c6).bind fun b7 => (dStr c7).bind fun b8 => (dInt .i64 c8).bind fun b9 => (dInt .i64 c9).bind fun b10 => (dStr c10).bind fun b11 => (dStr c11).bind fun b12 => (dStr c12).bind fun b13 => (dStr c13).bind fun b14 => (dInt .i64 c14).bind fun b15 => some ⟨b1, b2, b3, b4, ⟨b5, b6, b7, b8, b9, b10, b11, b12⟩, b13, b14, b15⟩ | _ => none
def enc_e101 (x : G_Row) : List (D A) := [.int .i64 x.f_From, .int .i64 x.f_To]
def dec_e101 (cs : List (D A)) : Option (G_Row) := match cs with | [c0, c1] => (dInt .i64 c0).bind fun b1 => (dInt .i64 c1).bind fun b2 => some ⟨b1, b2⟩ | _ => none
def enc_e109 (x : G_Place) : List (D A) := [.int .i64 x.f_Rank, .int .i64 x.f_Points, .str x.f_Key]
def dec_e109 (cs : List (D A)) : Option (G_Place) := match cs with | [c0, c1, c2] => (dInt .i64 c0).bind fun b1 => (dInt .i64 c1).bind fun b2 => (dStr c2).bind fun b3 => some ⟨b1, b2, b3⟩ | _ => none
def enc_e132 (x : G_log_worked) : List (D A) := [.str x.f_base, .str x.f_band, .int .i64 x.f_mode]
def dec_e132 (cs : List (D A)) : Option (G_log_worked) := match cs with | [c0, c1, c2] => (dStr c0).bind fun b1 => (dStr c1).bind fun b2 => (dInt .i64 c2).bind fun b3 => some ⟨b1, b2, b3⟩ | _ => none
def enc_e149 (x : G_Parts) : List (D A) := [.str x.f_Base, .str x.f_Prefix, .str x.f_Suffix, .int .i64 x.f_Kind, .str x.f_Added]
def dec_e149 (cs : List (D A)) : Option (G_Parts) := match cs with | [c0, c1, c2, c3, c4] => (dStr c0).bind fun b1 => (dStr c1).bind fun b2 => (dStr c2).bind fun b3 => (dInt .i64 c3).bind fun b4 => (dStr c4).bind fun b5 => some ⟨b1, b2, b3, b4, b5⟩ | _ => none
def enc_e176 (x : G_net_own) : List (D A) := [.str x.f_site, .int .i64 x.f_no]
def dec_e176 (cs : List (D A)) : Option (G_net_own) := match cs with | [c0, c1] => (dStr c0).bind fun b1 => (dInt .i64 c1).bind fun b2 => some ⟨b1, b2⟩ | _ => none
def encE : (k : El) → AE k → List (D A)
 | .e3, x => enc_e3 x
 | .e4, x => enc_e4 x
 | .e9, x => enc_e9 x
 | .e25, x => enc_e25 x
 | .e26, x => enc_e26 x
 | .e30, x => enc_e30 x
 | .e35, x => enc_e35 x
 | .e42, x => enc_e42 x
 | .e67, x => enc_e67 x
 | .e69, x => enc_e69 x
 | .e75, x => enc_e75 x
 | .e80, x => enc_e80 x
 | .e101, x => enc_e101 x
 | .e109, x => enc_e109 x
 | .e132, x => enc_e132 x
 | .e149, x => enc_e149 x
 | .e176, x => enc_e176 x
 | .no, _ => [.nilif]
def decE : (k : El) → List (D A) → Option (AE k)
 | .e3, cs => dec_e3 cs
 | .e4, cs => dec_e4 cs
 | .e9, cs => dec_e9 cs
 | .e25, cs => dec_e25 cs
 | .e26, cs => dec_e26 cs
 | .e30, cs => dec_e30 cs
 | .e35, cs => dec_e35 cs
 | .e42, cs => dec_e42 cs
 | .e67, cs => dec_e67 cs
 | .e69, cs => dec_e69 cs
 | .e75, cs => dec_e75 cs
 | .e80, cs => dec_e80 cs
 | .e101, cs => dec_e101 cs
 | .e109, cs => dec_e109 cs
 | .e132, cs => dec_e132 cs
 | .e149, cs => dec_e149 cs
 | .e176, cs => dec_e176 cs
 | .no, _ => none
def aggE : El → Bool
 | .e3 => false
 | .e4 => false
 | .e9 => false
 | .e25 => true
 | .e26 => false
 | .e30 => false
 | .e35 => true
 | .e42 => true
 | .e67 => true
 | .e69 => true
 | .e75 => true
 | .e80 => true
 | .e101 => true
 | .e109 => true
 | .e132 => true
 | .e149 => true
 | .e176 => true
 | .no => false
def T : Ty A where
 size := fun e => sizeE (el e)
 enc := fun e x => encE (el e) x
 dec := fun e cs => decE (el e) cs
 agg := fun e => aggE (el e)
theorem lenE : ∀ k x, (encE k x).length = sizeE k := by intro k x; cases k <;> rfl
theorem posE : ∀ k, 0 < sizeE k := by intro k; cases k <;> decide
theorem dok_e3 {U : Ty A} {cs : List (D A)} {x : Int} (h : dec_e3 cs = some x) : OkL U cs (enc_e3 x) := by
 unfold dec_e3 at h
 split at h
 ·simp only [Option.bind_eq_some_iff] at h
  obtain ⟨b1, h1, hx⟩ := h
  obtain rfl := Option.some.inj hx
  exact (.cons (gInt h1) .nil)
 ·cases h
theorem flt_e3 (x : Int) : (enc_e3 x).all D.plain = true := rfl
theorem dok_e4 {U : Ty A} {cs : List (D A)} {x : Bool} (h : dec_e4 cs = some x) : OkL U cs (enc_e4 x) := by
 unfold dec_e4 at h
 split at h
 ·simp only [Option.bind_eq_some_iff] at h
  obtain ⟨b1, h1, hx⟩ := h
  obtain rfl := Option.some.inj hx
  exact (.cons (gBool h1) .nil)
 ·cases h
theorem flt_e4 (x : Bool) : (enc_e4 x).all D.plain = true := rfl
theorem dok_e9 {U : Ty A} {cs : List (D A)} {x : List UInt8} (h : dec_e9 cs = some x) : OkL U cs (enc_e9 x) := by
 unfold dec_e9 at h
 split at h
 ·simp only [Option.bind_eq_some_iff] at h
  obtain ⟨b1, h1, hx⟩ := h
  obtain rfl := Option.some.inj hx
  exact (.cons (gStr h1) .nil)
 ·cases h
theorem flt_e9 (x : List UInt8) : (enc_e9 x).all D.plain = true := rfl
theorem dok_e25 {U : Ty A} {cs : List (D A)} {x : G_Stream} (h : dec_e25 cs = some x) : OkL U cs (enc_e25 x) := by
 unfold dec_e25 at h
 split at h
 ·simp only [Option.bind_eq_some_iff] at h
  obtain ⟨b1, h1, b2, h2, hx⟩ := h
  obtain rfl := Option.some.inj hx
  exact (.cons (gSl h1) (.cons (gInt h2) .nil))
 ·cases h
theorem dok_e26 {U : Ty A} {cs : List (D A)} {x : List G_Contact} (h : dec_e26 cs = some x) : OkL U cs (enc_e26 x) := by
 unfold dec_e26 at h
 split at h
 ·simp only [Option.bind_eq_some_iff] at h
  obtain ⟨b1, h1, hx⟩ := h
  obtain rfl := Option.some.inj hx
  exact (.cons (gSl h1) .nil)
 ·cases h
theorem dok_e30 {U : Ty A} {cs : List (D A)} {x : Int} (h : dec_e30 cs = some x) : OkL U cs (enc_e30 x) := by
 unfold dec_e30 at h
 split at h
 ·simp only [Option.bind_eq_some_iff] at h
  obtain ⟨b1, h1, hx⟩ := h
  obtain rfl := Option.some.inj hx
  exact (.cons (gInt h1) .nil)
 ·cases h
theorem flt_e30 (x : Int) : (enc_e30 x).all D.plain = true := rfl
theorem dok_e35 {U : Ty A} {cs : List (D A)} {x : G_Contact} (h : dec_e35 cs = some x) : OkL U cs (enc_e35 x) := by
 unfold dec_e35 at h
 split at h
 ·simp only [Option.bind_eq_some_iff] at h
  obtain ⟨b1, h1, b2, h2, b3, h3, b4, h4, b5, h5, b6, h6, b7, h7, b8, h8, hx⟩ := h
  obtain rfl := Option.some.inj hx
  exact (.cons (gInt h1) (.cons (gInt h2) (.cons (gStr h3) (.cons (gStr h4) (.cons (gInt h5) (.cons (gInt h6) (.cons (gStr h7) (.cons (gStr h8) .nil))))))))
 ·cases h
theorem flt_e35 (x : G_Contact) : (enc_e35 x).all D.plain = true := rfl
theorem dok_e42 {U : Ty A} {cs : List (D A)} {x : G_Change} (h : dec_e42 cs = some x) : OkL U cs (enc_e42 x) := by
 unfold dec_e42 at h
 split at h
 ·simp only [Option.bind_eq_some_iff] at h
  obtain ⟨b1, h1, b2, h2, b3, h3, b4, h4, b5, h5, b6, h6, b7, h7, b8, h8, b9, h9, b10, h10, b11, h11, b12, h12, b13, h13, b14, h14, b15, h15, b16, h16, b17, h17, b18, h18, hx⟩ := h
  obtain rfl := Option.some.inj hx
  exact (.cons (gInt h1) (.cons (gInt h2) (.cons (gInt h3) (.cons (gInt h4) (.cons (gStr h5) (.cons (gStr h6) (.cons (gInt h7) (.cons (gInt h8) (.cons (gStr h9) (.cons (gStr h10) (.cons (gInt h11) (.cons (gInt h12) (.cons (gStr h13) (.cons (gStr h14) (.cons (gInt h15) (.cons (gInt h16) (.cons (gStr h17) (.cons (gStr h18) .nil))))))))))))))))))
 ·cases h
theorem flt_e42 (x : G_Change) : (enc_e42 x).all D.plain = true := rfl
theorem dok_e67 {U : Ty A} {cs : List (D A)} {x : G_Window} (h : dec_e67 cs = some x) : OkL U cs (enc_e67 x) := by
 unfold dec_e67 at h
 split at h
 ·simp only [Option.bind_eq_some_iff] at h
  obtain ⟨b1, h1, b2, h2, hx⟩ := h
  obtain rfl := Option.some.inj hx
  exact (.cons (gInt h1) (.cons (gInt h2) .nil))
 ·cases h
theorem flt_e67 (x : G_Window) : (enc_e67 x).all D.plain = true := rfl
theorem dok_e69 {U : Ty A} {cs : List (D A)} {x : G_Segment} (h : dec_e69 cs = some x) : OkL U cs (enc_e69 x) := by
 unfold dec_e69 at h
 split at h
 ·simp only [Option.bind_eq_some_iff] at h
  obtain ⟨b1, h1, b2, h2, b3, h3, b4, h4, b5, h5, b6, h6, hx⟩ := h
  obtain rfl := Option.some.inj hx
  exact (.cons (gStr h1) (.cons (gInt h2) (.cons (gInt h3) (.cons (gSl h4) (.cons (gInt h5) (.cons (gInt h6) .nil))))))
 ·cases h
theorem dok_e75 {U : Ty A} {cs : List (D A)} {x : G_Entrant} (h : dec_e75 cs = some x) : OkL U cs (enc_e75 x) := by
 unfold dec_e75 at h
 split at h
 ·simp only [Option.bind_eq_some_iff] at h
  obtain ⟨b1, h1, b2, h2, b3, h3, b4, h4, hx⟩ := h
  obtain rfl := Option.some.inj hx
  exact (.cons (gStr h1) (.cons (gStr h2) (.cons (gInt h3) (.cons (gStr h4) .nil))))
 ·cases h
theorem flt_e75 (x : G_Entrant) : (enc_e75 x).all D.plain = true := rfl
theorem dok_e80 {U : Ty A} {cs : List (D A)} {x : G_Deed} (h : dec_e80 cs = some x) : OkL U cs (enc_e80 x) := by
 unfold dec_e80 at h
 split at h
 ·simp only [Option.bind_eq_some_iff] at h
  obtain ⟨b1, h1, b2, h2, b3, h3, b4, h4, b5, h5, b6, h6, b7, h7, b8, h8, b9, h9, b10, h10, b11, h11, b12, h12, b13, h13, b14, h14, b15, h15, hx⟩ := h
  obtain rfl := Option.some.inj hx
  exact (.cons (gStr h1) (.cons (gInt h2) (.cons (gInt h3) (.cons (gInt h4) (.cons (gInt h5) (.cons (gInt h6) (.cons (gStr h7) (.cons (gStr h8) (.cons (gInt h9) (.cons (gInt h10) (.cons (gStr h11) (.cons (gStr h12) (.cons (gStr h13) (.cons (gStr h14) (.cons (gInt h15) .nil)))))))))))))))
 ·cases h
theorem flt_e80 (x : G_Deed) : (enc_e80 x).all D.plain = true := rfl
theorem dok_e101 {U : Ty A} {cs : List (D A)} {x : G_Row} (h : dec_e101 cs = some x) : OkL U cs (enc_e101 x) := by
 unfold dec_e101 at h
 split at h
 ·simp only [Option.bind_eq_some_iff] at h
  obtain ⟨b1, h1, b2, h2, hx⟩ := h
  obtain rfl := Option.some.inj hx
  exact (.cons (gInt h1) (.cons (gInt h2) .nil))
 ·cases h
theorem flt_e101 (x : G_Row) : (enc_e101 x).all D.plain = true := rfl
theorem dok_e109 {U : Ty A} {cs : List (D A)} {x : G_Place} (h : dec_e109 cs = some x) : OkL U cs (enc_e109 x) := by
 unfold dec_e109 at h
 split at h
 ·simp only [Option.bind_eq_some_iff] at h
  obtain ⟨b1, h1, b2, h2, b3, h3, hx⟩ := h
  obtain rfl := Option.some.inj hx
  exact (.cons (gInt h1) (.cons (gInt h2) (.cons (gStr h3) .nil)))
 ·cases h
theorem flt_e109 (x : G_Place) : (enc_e109 x).all D.plain = true := rfl
theorem dok_e132 {U : Ty A} {cs : List (D A)} {x : G_log_worked} (h : dec_e132 cs = some x) : OkL U cs (enc_e132 x) := by
 unfold dec_e132 at h
 split at h
 ·simp only [Option.bind_eq_some_iff] at h
  obtain ⟨b1, h1, b2, h2, b3, h3, hx⟩ := h
  obtain rfl := Option.some.inj hx
  exact (.cons (gStr h1) (.cons (gStr h2) (.cons (gInt h3) .nil)))
 ·cases h
theorem flt_e132 (x : G_log_worked) : (enc_e132 x).all D.plain = true := rfl
theorem dok_e149 {U : Ty A} {cs : List (D A)} {x : G_Parts} (h : dec_e149 cs = some x) : OkL U cs (enc_e149 x) := by
 unfold dec_e149 at h
 split at h
 ·simp only [Option.bind_eq_some_iff] at h
  obtain ⟨b1, h1, b2, h2, b3, h3, b4, h4, b5, h5, hx⟩ := h
  obtain rfl := Option.some.inj hx
  exact (.cons (gStr h1) (.cons (gStr h2) (.cons (gStr h3) (.cons (gInt h4) (.cons (gStr h5) .nil)))))
 ·cases h
theorem flt_e149 (x : G_Parts) : (enc_e149 x).all D.plain = true := rfl
theorem dok_e176 {U : Ty A} {cs : List (D A)} {x : G_net_own} (h : dec_e176 cs = some x) : OkL U cs (enc_e176 x) := by
 unfold dec_e176 at h
 split at h
 ·simp only [Option.bind_eq_some_iff] at h
  obtain ⟨b1, h1, b2, h2, hx⟩ := h
  obtain rfl := Option.some.inj hx
  exact (.cons (gStr h1) (.cons (gInt h2) .nil))
 ·cases h
theorem flt_e176 (x : G_net_own) : (enc_e176 x).all D.plain = true := rfl
def TD : Ty A := T.day
theorem decOk {U : Ty A} : ∀ k cs x, decE k cs = some x → OkL U cs (encE k x) := by
 intro k cs x h
 cases k
 case e3 => exact dok_e3 h
 case e4 => exact dok_e4 h
 case e9 => exact dok_e9 h
 case e25 => exact dok_e25 h
 case e26 => exact dok_e26 h
 case e30 => exact dok_e30 h
 case e35 => exact dok_e35 h
 case e42 => exact dok_e42 h
 case e67 => exact dok_e67 h
 case e69 => exact dok_e69 h
 case e75 => exact dok_e75 h
 case e80 => exact dok_e80 h
 case e101 => exact dok_e101 h
 case e109 => exact dok_e109 h
 case e132 => exact dok_e132 h
 case e149 => exact dok_e149 h
 case e176 => exact dok_e176 h
 case no => cases h
theorem tyOkD (P : Program) : TyOk P TD := ⟨fun e x => lenE (el e) x, fun e => posE (el e), fun e cs x h => by
 obtain ⟨h1, h2⟩ := decOk (U := TD) (el e) cs x h
 exact ⟨h1.trans (lenE (el e) x), h2⟩⟩
theorem tyOk (P : Program) : TyOk P T := ⟨fun e x => lenE (el e) x, fun e => posE (el e), fun e cs x h => by
 obtain ⟨h1, h2⟩ := decOk (el e) cs x h
 exact ⟨h1.trans (lenE (el e) x), h2⟩⟩
def flatE : El → Bool
 | .e3 => true
 | .e4 => true
 | .e9 => true
 | .e25 => false
 | .e26 => false
 | .e30 => true
 | .e35 => true
 | .e42 => true
 | .e67 => true
 | .e69 => false
 | .e75 => true
 | .e80 => true
 | .e101 => true
 | .e109 => true
 | .e132 => true
 | .e149 => true
 | .e176 => true
 | .no => false
def flatT (e : Nat) : Bool := flatE (el e)
theorem flatEOk : ∀ k, flatE k = true → ∀ x d, d ∈ encE k x → D.plain d = true := by
 intro k h x d hd
 cases k
 case e3 => exact List.all_eq_true.1 (flt_e3 x) d hd
 case e4 => exact List.all_eq_true.1 (flt_e4 x) d hd
 case e9 => exact List.all_eq_true.1 (flt_e9 x) d hd
 case e25 => cases h
 case e26 => cases h
 case e30 => exact List.all_eq_true.1 (flt_e30 x) d hd
 case e35 => exact List.all_eq_true.1 (flt_e35 x) d hd
 case e42 => exact List.all_eq_true.1 (flt_e42 x) d hd
 case e67 => exact List.all_eq_true.1 (flt_e67 x) d hd
 case e69 => cases h
 case e75 => exact List.all_eq_true.1 (flt_e75 x) d hd
 case e80 => exact List.all_eq_true.1 (flt_e80 x) d hd
 case e101 => exact List.all_eq_true.1 (flt_e101 x) d hd
 case e109 => exact List.all_eq_true.1 (flt_e109 x) d hd
 case e132 => exact List.all_eq_true.1 (flt_e132 x) d hd
 case e149 => exact List.all_eq_true.1 (flt_e149 x) d hd
 case e176 => exact List.all_eq_true.1 (flt_e176 x) d hd
 case no => cases h
def eq_G_Contact (x y : G_Contact) : Bool := (x.f_At == y.f_At && (x.f_Mode == y.f_Mode && (x.f_Band == y.f_Band && (x.f_Call == y.f_Call && (x.f_Sent == y.f_Sent && (x.f_Heard == y.f_Heard && (x.f_Gave == y.f_Gave && (x.f_Got == y.f_Got && true))))))))
def eq_G_Change (x y : G_Change) : Bool := (x.f_No == y.f_No && (x.f_Kind == y.f_Kind && ((x.f_Was.f_At == y.f_Was.f_At && (x.f_Was.f_Mode == y.f_Was.f_Mode && (x.f_Was.f_Band == y.f_Was.f_Band && (x.f_Was.f_Call == y.f_Was.f_Call && (x.f_Was.f_Sent == y.f_Was.f_Sent && (x.f_Was.f_Heard == y.f_Was.f_Heard && (x.f_Was.f_Gave == y.f_Was.f_Gave && (x.f_Was.f_Got == y.f_Was.f_Got && true)))))))) && ((x.f_Is.f_At == y.f_Is.f_At && (x.f_Is.f_Mode == y.f_Is.f_Mode && (x.f_Is.f_Band == y.f_Is.f_Band && (x.f_Is.f_Call == y.f_Is.f_Call && (x.f_Is.f_Sent == y.f_Is.f_Sent && (x.f_Is.f_Heard == y.f_Is.f_Heard && (x.f_Is.f_Gave == y.f_Is.f_Gave && (x.f_Is.f_Got == y.f_Is.f_Got && true)))))))) && true))))
def mget_int_int (x : Int) (m : List (Int × Int)) : Option Int := getM T 3 3 x m
def mdel_int_int (x : Int) (m : List (Int × Int)) : List (Int × Int) := delM T 3 3 x m
def mset_int_int (x : Int) (y : Int) (m : List (Int × Int)) : List (Int × Int) := setM T 3 3 x y m
def keq_int (x y : Int) : Bool := (x == y && true)
theorem mget_int_int_nil (x : Int) : mget_int_int x [] = none := by kernel_rfl
theorem mget_int_int_cons (x : Int) (p : Int × Int) (m : List (Int × Int)) : mget_int_int x (p :: m) = bif keq_int x p.1 then some p.2 else mget_int_int x m := by kernel_rfl
theorem mdel_int_int_nil (x : Int) : mdel_int_int x [] = [] := by kernel_rfl
theorem mdel_int_int_cons (x : Int) (p : Int × Int) (m : List (Int × Int)) : mdel_int_int x (p :: m) = bif keq_int x p.1 then m else p :: mdel_int_int x m := by kernel_rfl
theorem mset_int_int_nil (x : Int) (y : Int) : mset_int_int x y [] = [(x, y)] := by kernel_rfl
theorem mset_int_int_cons (x : Int) (y : Int) (p : Int × Int) (m : List (Int × Int)) : mset_int_int x y (p :: m) = bif keq_int x p.1 then (x, y) :: m else p :: mset_int_int x y m := by kernel_rfl
def mget_Contact_bool (x : G_Contact) (m : List (G_Contact × Bool)) : Option Bool := getM T 35 4 x m
def mdel_Contact_bool (x : G_Contact) (m : List (G_Contact × Bool)) : List (G_Contact × Bool) := delM T 35 4 x m
def mset_Contact_bool (x : G_Contact) (y : Bool) (m : List (G_Contact × Bool)) : List (G_Contact × Bool) := setM T 35 4 x y m
def keq_Contact (x y : G_Contact) : Bool := (x.f_At == y.f_At && (x.f_Mode == y.f_Mode && (x.f_Band == y.f_Band && (x.f_Call == y.f_Call && (x.f_Sent == y.f_Sent && (x.f_Heard == y.f_Heard && (x.f_Gave == y.f_Gave && (x.f_Got == y.f_Got && true))))))))
theorem mget_Contact_bool_nil (x : G_Contact) : mget_Contact_bool x [] = none := by kernel_rfl
theorem mget_Contact_bool_cons (x : G_Contact) (p : G_Contact × Bool) (m : List (G_Contact × Bool)) : mget_Contact_bool x (p :: m) = bif keq_Contact x p.1 then some p.2 else mget_Contact_bool x m := by kernel_rfl
theorem mdel_Contact_bool_nil (x : G_Contact) : mdel_Contact_bool x [] = [] := by kernel_rfl
theorem mdel_Contact_bool_cons (x : G_Contact) (p : G_Contact × Bool) (m : List (G_Contact × Bool)) : mdel_Contact_bool x (p :: m) = bif keq_Contact x p.1 then m else p :: mdel_Contact_bool x m := by kernel_rfl
theorem mset_Contact_bool_nil (x : G_Contact) (y : Bool) : mset_Contact_bool x y [] = [(x, y)] := by kernel_rfl
theorem mset_Contact_bool_cons (x : G_Contact) (y : Bool) (p : G_Contact × Bool) (m : List (G_Contact × Bool)) : mset_Contact_bool x y (p :: m) = bif keq_Contact x p.1 then (x, y) :: m else p :: mset_Contact_bool x y m := by kernel_rfl
def mget_Contact_Contact (x : G_Contact) (m : List (G_Contact × G_Contact)) : Option G_Contact := getM T 35 35 x m
def mdel_Contact_Contact (x : G_Contact) (m : List (G_Contact × G_Contact)) : List (G_Contact × G_Contact) := delM T 35 35 x m
def mset_Contact_Contact (x : G_Contact) (y : G_Contact) (m : List (G_Contact × G_Contact)) : List (G_Contact × G_Contact) := setM T 35 35 x y m
theorem mget_Contact_Contact_nil (x : G_Contact) : mget_Contact_Contact x [] = none := by kernel_rfl
theorem mget_Contact_Contact_cons (x : G_Contact) (p : G_Contact × G_Contact) (m : List (G_Contact × G_Contact)) : mget_Contact_Contact x (p :: m) = bif keq_Contact x p.1 then some p.2 else mget_Contact_Contact x m := by kernel_rfl
theorem mdel_Contact_Contact_nil (x : G_Contact) : mdel_Contact_Contact x [] = [] := by kernel_rfl
theorem mdel_Contact_Contact_cons (x : G_Contact) (p : G_Contact × G_Contact) (m : List (G_Contact × G_Contact)) : mdel_Contact_Contact x (p :: m) = bif keq_Contact x p.1 then m else p :: mdel_Contact_Contact x m := by kernel_rfl
theorem mset_Contact_Contact_nil (x : G_Contact) (y : G_Contact) : mset_Contact_Contact x y [] = [(x, y)] := by kernel_rfl
theorem mset_Contact_Contact_cons (x : G_Contact) (y : G_Contact) (p : G_Contact × G_Contact) (m : List (G_Contact × G_Contact)) : mset_Contact_Contact x y (p :: m) = bif keq_Contact x p.1 then (x, y) :: m else p :: mset_Contact_Contact x y m := by kernel_rfl
def mget_Contact_Deed (x : G_Contact) (m : List (G_Contact × G_Deed)) : Option G_Deed := getM T 35 80 x m
def mdel_Contact_Deed (x : G_Contact) (m : List (G_Contact × G_Deed)) : List (G_Contact × G_Deed) := delM T 35 80 x m
def mset_Contact_Deed (x : G_Contact) (y : G_Deed) (m : List (G_Contact × G_Deed)) : List (G_Contact × G_Deed) := setM T 35 80 x y m
theorem mget_Contact_Deed_nil (x : G_Contact) : mget_Contact_Deed x [] = none := by kernel_rfl
theorem mget_Contact_Deed_cons (x : G_Contact) (p : G_Contact × G_Deed) (m : List (G_Contact × G_Deed)) : mget_Contact_Deed x (p :: m) = bif keq_Contact x p.1 then some p.2 else mget_Contact_Deed x m := by kernel_rfl
theorem mdel_Contact_Deed_nil (x : G_Contact) : mdel_Contact_Deed x [] = [] := by kernel_rfl
theorem mdel_Contact_Deed_cons (x : G_Contact) (p : G_Contact × G_Deed) (m : List (G_Contact × G_Deed)) : mdel_Contact_Deed x (p :: m) = bif keq_Contact x p.1 then m else p :: mdel_Contact_Deed x m := by kernel_rfl
theorem mset_Contact_Deed_nil (x : G_Contact) (y : G_Deed) : mset_Contact_Deed x y [] = [(x, y)] := by kernel_rfl
theorem mset_Contact_Deed_cons (x : G_Contact) (y : G_Deed) (p : G_Contact × G_Deed) (m : List (G_Contact × G_Deed)) : mset_Contact_Deed x y (p :: m) = bif keq_Contact x p.1 then (x, y) :: m else p :: mset_Contact_Deed x y m := by kernel_rfl
def mget_log_worked_bool (x : G_log_worked) (m : List (G_log_worked × Bool)) : Option Bool := getM T 132 4 x m
def mdel_log_worked_bool (x : G_log_worked) (m : List (G_log_worked × Bool)) : List (G_log_worked × Bool) := delM T 132 4 x m
def mset_log_worked_bool (x : G_log_worked) (y : Bool) (m : List (G_log_worked × Bool)) : List (G_log_worked × Bool) := setM T 132 4 x y m
def keq_log_worked (x y : G_log_worked) : Bool := (x.f_base == y.f_base && (x.f_band == y.f_band && (x.f_mode == y.f_mode && true)))
theorem mget_log_worked_bool_nil (x : G_log_worked) : mget_log_worked_bool x [] = none := by kernel_rfl
theorem mget_log_worked_bool_cons (x : G_log_worked) (p : G_log_worked × Bool) (m : List (G_log_worked × Bool)) : mget_log_worked_bool x (p :: m) = bif keq_log_worked x p.1 then some p.2 else mget_log_worked_bool x m := by kernel_rfl
theorem mdel_log_worked_bool_nil (x : G_log_worked) : mdel_log_worked_bool x [] = [] := by kernel_rfl
theorem mdel_log_worked_bool_cons (x : G_log_worked) (p : G_log_worked × Bool) (m : List (G_log_worked × Bool)) : mdel_log_worked_bool x (p :: m) = bif keq_log_worked x p.1 then m else p :: mdel_log_worked_bool x m := by kernel_rfl
theorem mset_log_worked_bool_nil (x : G_log_worked) (y : Bool) : mset_log_worked_bool x y [] = [(x, y)] := by kernel_rfl
theorem mset_log_worked_bool_cons (x : G_log_worked) (y : Bool) (p : G_log_worked × Bool) (m : List (G_log_worked × Bool)) : mset_log_worked_bool x y (p :: m) = bif keq_log_worked x p.1 then (x, y) :: m else p :: mset_log_worked_bool x y m := by kernel_rfl
def mget_net_own_bool (x : G_net_own) (m : List (G_net_own × Bool)) : Option Bool := getM T 176 4 x m
def mdel_net_own_bool (x : G_net_own) (m : List (G_net_own × Bool)) : List (G_net_own × Bool) := delM T 176 4 x m
def mset_net_own_bool (x : G_net_own) (y : Bool) (m : List (G_net_own × Bool)) : List (G_net_own × Bool) := setM T 176 4 x y m
def keq_net_own (x y : G_net_own) : Bool := (x.f_site == y.f_site && (x.f_no == y.f_no && true))
theorem mget_net_own_bool_nil (x : G_net_own) : mget_net_own_bool x [] = none := by kernel_rfl
theorem mget_net_own_bool_cons (x : G_net_own) (p : G_net_own × Bool) (m : List (G_net_own × Bool)) : mget_net_own_bool x (p :: m) = bif keq_net_own x p.1 then some p.2 else mget_net_own_bool x m := by kernel_rfl
theorem mdel_net_own_bool_nil (x : G_net_own) : mdel_net_own_bool x [] = [] := by kernel_rfl
theorem mdel_net_own_bool_cons (x : G_net_own) (p : G_net_own × Bool) (m : List (G_net_own × Bool)) : mdel_net_own_bool x (p :: m) = bif keq_net_own x p.1 then m else p :: mdel_net_own_bool x m := by kernel_rfl
theorem mset_net_own_bool_nil (x : G_net_own) (y : Bool) : mset_net_own_bool x y [] = [(x, y)] := by kernel_rfl
theorem mset_net_own_bool_cons (x : G_net_own) (y : Bool) (p : G_net_own × Bool) (m : List (G_net_own × Bool)) : mset_net_own_bool x y (p :: m) = bif keq_net_own x p.1 then (x, y) :: m else p :: mset_net_own_bool x y m := by kernel_rfl
theorem ko_3x (x p : Int) : eqT Tryz.prog 64 3 (packAV T 3 x) (packAV T 3 p) = some ((x : Int) == (p : Int)) := by kernel_rfl
theorem ko_3y (x p : Int) : some (eqDs (T.enc 3 x) (T.enc 3 p)) = some ((x == p) && true) := by kernel_rfl
theorem ko_3z (x p : Int) : eqT Tryz.prog 64 3 (packAV T 3 x) (packAV T 3 p) = some (eqDs (T.enc 3 x) (T.enc 3 p)) := (ko_3x x p).trans (((congrArg some (Bool.and_true (x == p))).symm).trans (ko_3y x p).symm)
theorem ko_3 : KeyOk Tryz.prog T 3 := fun x p => ko_3z x p
theorem kd_3 : ∃ kd, Tryz.prog.underlying 3 = some kd := Option.isSome_iff_exists.1 (by kernel_rfl)
theorem ko_35x (x p : G_Contact) : eqT Tryz.prog 64 35 (packAV T 35 x) (packAV T 35 p) = some (eqDs (T.enc 35 x) (T.enc 35 p)) := by kernel_rfl
theorem ko_35 : KeyOk Tryz.prog T 35 := by
 intro x p
 exact ko_35x x p
theorem kd_35 : ∃ kd, Tryz.prog.underlying 35 = some kd := Option.isSome_iff_exists.1 (by kernel_rfl)
theorem ko_132x (x p : G_log_worked) : eqT Tryz.prog 64 132 (packAV T 132 x) (packAV T 132 p) = some (eqDs (T.enc 132 x) (T.enc 132 p)) := by kernel_rfl
theorem ko_132 : KeyOk Tryz.prog T 132 := by
 intro x p
 exact ko_132x x p
theorem kd_132 : ∃ kd, Tryz.prog.underlying 132 = some kd := Option.isSome_iff_exists.1 (by kernel_rfl)
theorem ko_176x (x p : G_net_own) : eqT Tryz.prog 64 176 (packAV T 176 x) (packAV T 176 p) = some (eqDs (T.enc 176 x) (T.enc 176 p)) := by kernel_rfl
theorem ko_176 : KeyOk Tryz.prog T 176 := by
 intro x p
 exact ko_176x x p
theorem kd_176 : ∃ kd, Tryz.prog.underlying 176 = some kd := Option.isSome_iff_exists.1 (by kernel_rfl)
def keyT (k : Nat) : Bool := k == 3 || k == 35 || k == 132 || k == 176
theorem keysOk : ∀ k, keyT k = true → KeyOk Tryz.prog T k ∧ ∃ kd, Tryz.prog.underlying k = some kd := by
 intro k h
 simp only [keyT, Bool.or_eq_true, beq_iff_eq] at h
 rcases h with ((rfl | rfl) | rfl) | rfl
 ·exact ⟨ko_3, kd_3⟩
 ·exact ⟨ko_35, kd_35⟩
 ·exact ⟨ko_132, kd_132⟩
 ·exact ⟨ko_176, kd_176⟩
theorem flatOk : FlatOk T flatT := fun e h x d hd => flatEOk (el e) h x d hd
def spT : List (Nat × Sp A) := []
theorem spAll : SpAll Tryz.prog T spT := .nil
theorem std : Std Tryz.prog T keyT flatT (fun f => spT.lookup f) := ⟨tyOk Tryz.prog, flatOk, keysOk, spAll.ok, by kernel_rfl⟩
abbrev Ok (f : Nat) (S : Spec A) : Prop := OkF Tryz.prog T f S
theorem stdD : Std Tryz.prog TD keyT flatT (fun _ => none) := ⟨tyOkD Tryz.prog, fun e h x d hd => flatEOk (el e) h x d hd, keysOk, fun _ _ h => (by cases h), by kernel_rfl⟩
abbrev OkD (f : Nat) (S : Spec A) : Prop := OkF Tryz.prog TD f S
noncomputable def mkE (C : List (Nat × Spec A)) (tg : List (Nat × List Nat)) (lh xh : List (Nat × Hint)) (cl : List (Nat × Piece A)) (sh xs : List (Nat × Hint)) (cs : List (Nat × Piece A)) (md : List (Nat × Nat)) (pin : List Nat) : Env A :=
 { P := Tryz.prog, T := T, C := fun f => C.lookup f, tg := fun d => (tg.lookup d).getD [], seqH := fun i => sh.lookup i, loopH := fun i => lh.lookup i, exitH := fun i => xh.lookup i, exitS := fun i => xs.lookup i, cutS := fun i => cs.lookup i, cutL := fun i => cl.lookup i, mode := fun f i => md.contains (f, i), sp := fun f => spT.lookup f, keyed := keyT, flat := flatT, pin := pin }
noncomputable def mkED (C : List (Nat × Spec A)) (tg : List (Nat × List Nat)) (lh xh : List (Nat × Hint)) (cl : List (Nat × Piece A)) (sh xs : List (Nat × Hint)) (cs : List (Nat × Piece A)) (md : List (Nat × Nat)) (pin : List Nat) : Env A :=
 { P := Tryz.prog, T := TD, C := fun f => C.lookup f, tg := fun d => (tg.lookup d).getD [], seqH := fun i => sh.lookup i, loopH := fun i => lh.lookup i, exitH := fun i => xh.lookup i, exitS := fun i => xs.lookup i, cutS := fun i => cs.lookup i, cutL := fun i => cl.lookup i, mode := fun f i => md.contains (f, i), keyed := keyT, flat := flatT, pin := pin }
end Go.Am
