/- The functions of the program as Lean functions, each shown to be what the code computes, part 0. No condition: lemmas for the claim. -/
import Derived.Test.YtnlblmnoiepeaaaGreatDoorAmPrint
import Derived.Test.YtnlblmnoiepeaaaGreatDoorAmIn
import Derived.Test.YtnlblmnoiepeaaaGreatDoorProg
import Derived.KernelRfl
set_option linter.unusedVariables false
set_option maxRecDepth 100000
namespace Go.Am
open Go Go.Proofs
structure G_Stream where
 f_L : List Int
 f_at : Int
 deriving DecidableEq
structure G_Contact where
 f_At : Int
 f_Mode : Int
 f_Band : List UInt8
 f_Call : List UInt8
 f_Sent : Int
 f_Heard : Int
 f_Gave : List UInt8
 f_Got : List UInt8
 deriving DecidableEq
structure G_Spot where
 f_At : Int
 f_Hertz : Int
 f_Call : List UInt8
 f_By : List UInt8
 deriving DecidableEq
structure G_Band where
 f_Key : List UInt8
 f_Low : Int
 f_High : Int
 deriving DecidableEq
structure G_band_worked where
 f_base : List UInt8
 f_band : List UInt8
 deriving DecidableEq
structure G_Entrant where
 f_Call : List UInt8
 f_Category : List UInt8
 f_Points : Int
 f_Locator : List UInt8
 deriving DecidableEq
structure G_Deed where
 f_Site : List UInt8
 f_No : Int
 f_At : Int
 f_Kind : Int
 f_Contact : G_Contact
 f_Band : List UInt8
 f_Of : List UInt8
 f_Other : Int
 deriving DecidableEq
structure G_Parts where
 f_Base : List UInt8
 f_Prefix : List UInt8
 f_Suffix : List UInt8
 f_Kind : Int
 f_Added : List UInt8
 deriving DecidableEq
structure G_band_onBand where
 f_call : List UInt8
 f_band : Int
 deriving DecidableEq
structure G_log_worked where
 f_base : List UInt8
 f_band : List UInt8
 f_mode : Int
 deriving DecidableEq
structure G_Place where
 f_Rank : Int
 f_Points : Int
 f_Key : List UInt8
 deriving DecidableEq
structure G_net_own where
 f_site : List UInt8
 f_no : Int
 deriving DecidableEq
inductive El where
 | e3 | e4 | e9 | e25 | e38 | e42 | e62 | e72 | e88 | e93 | e123 | e131 | e140 | e143 | e225 | no
def el : Nat → El
 | 3 => .e3
 | 4 => .e4
 | 9 => .e9
 | 25 => .e25
 | 38 => .e38
 | 42 => .e42
 | 62 => .e62
 | 72 => .e72
 | 88 => .e88
 | 93 => .e93
 | 123 => .e123
 | 131 => .e131
 | 140 => .e140
 | 143 => .e143
 | 225 => .e225
 | _ => .no
def AE : El → Type
 | .e3 => Int
 | .e4 => Bool
 | .e9 => List UInt8
 | .e25 => G_Stream
 | .e38 => G_Contact
 | .e42 => G_Spot
 | .e62 => G_Band
 | .e72 => G_band_worked
 | .e88 => G_Entrant
 | .e93 => G_Deed
 | .e123 => G_Parts
 | .e131 => G_band_onBand
 | .e140 => G_log_worked
 | .e143 => G_Place
 | .e225 => G_net_own
 | .no => Unit
abbrev A (e : Nat) : Type := AE (el e)
def sizeE : El → Nat
 | .e3 => 1
 | .e4 => 1
 | .e9 => 1
 | .e25 => 2
 | .e38 => 8
 | .e42 => 4
 | .e62 => 3
 | .e72 => 2
 | .e88 => 4
 | .e93 => 15
 | .e123 => 5
 | .e131 => 2
 | .e140 => 3
 | .e143 => 3
 | .e225 => 2
 | .no => 1
def enc_e3 (x : Int) : List (D A) := [.int .i64 x]
def dec_e3 (cs : List (D A)) : Option (Int) := match cs with | [c0] => (dInt .i64 c0).bind fun b1 => some b1 | _ => none
def enc_e4 (x : Bool) : List (D A) := [.bool x]
def dec_e4 (cs : List (D A)) : Option (Bool) := match cs with | [c0] => (dBool c0).bind fun b1 => some b1 | _ => none
def enc_e9 (x : List UInt8) : List (D A) := [.str x]
def dec_e9 (cs : List (D A)) : Option (List UInt8) := match cs with | [c0] => (dStr c0).bind fun b1 => some b1 | _ => none
def enc_e25 (x : G_Stream) : List (D A) := [.sl 3 x.f_L, .int .i64 x.f_at]
def dec_e25 (cs : List (D A)) : Option (G_Stream) := match cs with | [c0, c1] => (dSl 3 c0).bind fun b1 => (dInt .i64 c1).bind fun b2 => some ⟨b1, b2⟩ | _ => none
def enc_e38 (x : G_Contact) : List (D A) := [.int .i64 x.f_At, .int .i64 x.f_Mode, .str x.f_Band, .str x.f_Call, .int .i64 x.f_Sent, .int .i64 x.f_Heard, .str x.f_Gave, .str x.f_Got]
def dec_e38 (cs : List (D A)) : Option (G_Contact) := match cs with | [c0, c1, c2, c3, c4, c5, c6, c7] => (dInt .i64 c0).bind fun b1 => (dInt .i64 c1).bind fun b2 => (dStr c2).bind fun b3 => (dStr c3).bind fun b4 => (dInt .i64 c4).bind fun b5 => (dInt .i64 c5).bind fun b6 => (dStr c6).bind fun b7 => (dStr c7).bind fun b8 => some ⟨b1, b2, b3, b4, b5, b6, b7, b8⟩ | _ => none
def enc_e42 (x : G_Spot) : List (D A) := [.int .i64 x.f_At, .int .i64 x.f_Hertz, .str x.f_Call, .str x.f_By]
def dec_e42 (cs : List (D A)) : Option (G_Spot) := match cs with | [c0, c1, c2, c3] => (dInt .i64 c0).bind fun b1 => (dInt .i64 c1).bind fun b2 => (dStr c2).bind fun b3 => (dStr c3).bind fun b4 => some ⟨b1, b2, b3, b4⟩ | _ => none
def enc_e62 (x : G_Band) : List (D A) := [.str x.f_Key, .int .i64 x.f_Low, .int .i64 x.f_High]
def dec_e62 (cs : List (D A)) : Option (G_Band) := match cs with | [c0, c1, c2] => (dStr c0).bind fun b1 => (dInt .i64 c1).bind fun b2 => (dInt .i64 c2).bind fun b3 => some ⟨b1, b2, b3⟩ | _ => none
def enc_e72 (x : G_band_worked) : List (D A) := [.str x.f_base, .str x.f_band]
def dec_e72 (cs : List (D A)) : Option (G_band_worked) := match cs with | [c0, c1] => (dStr c0).bind fun b1 => (dStr c1).bind fun b2 => some ⟨b1, b2⟩ | _ => none
def enc_e88 (x : G_Entrant) : List (D A) := [.str x.f_Call, .str x.f_Category, .int .i64 x.f_Points, .str x.f_Locator]
def dec_e88 (cs : List (D A)) : Option (G_Entrant) := match cs with | [c0, c1, c2, c3] => (dStr c0).bind fun b1 => (dStr c1).bind fun b2 => (dInt .i64 c2).bind fun b3 => (dStr c3).bind fun b4 => some ⟨b1, b2, b3, b4⟩ | _ => none
def enc_e93 (x : G_Deed) : List (D A) := [.str x.f_Site, .int .i64 x.f_No, .int .i64 x.f_At, .int .i64 x.f_Kind, .int .i64 x.f_Contact.f_At, .int .i64 x.f_Contact.f_Mode, .str x.f_Contact.f_Band, .str x.f_Contact.f_Call, .int .i64 x.f_Contact.f_Sent, .int .i64 x.f_Contact.f_Heard, .str x.f_Contact.f_Gave, .str x.f_Contact.f_Got, .str x.f_Band, .str x.f_Of, .int .i64 x.f_Other]
def dec_e93 (cs : List (D A)) : Option (G_Deed) := match cs with | [c0, c1, c2, c3, c4, c5, c6, c7, c8, c9, c10, c11, c12, c13, c14] => (dStr c0).bind fun b1 => (dInt .i64 c1).bind fun b2 => (dInt .i64 c2).bind fun b3 => (dInt .i64 c3).bind fun b4 => (dInt .i64 c4).bind fun b5 => (dInt .i64 c5).bind fun b6 => (dStr c6).bind fun b7 => (dStr c7).bind fun b8 => (dInt .i64 c8).bind fun b9 => (dInt .i64 c9).bind fun b10 => (dStr c10).bind fun b11 => (dStr c11).bind fun b12 => (dStr c12).bind fun b13 => (dStr c13).bind fun b14 => (dInt .i64 c14).bind fun b15 => some ⟨b1, b2, b3, b4, ⟨b5, b6, b7, b8, b9, b10, b11, b12⟩, b13, b14, b15⟩ | _ => none
def enc_e123 (x : G_Parts) : List (D A) := [.str x.f_Base, .str x.f_Prefix, .str x.f_Suffix, .int .i64 x.f_Kind, .str x.f_Added]
def dec_e123 (cs : List (D A)) : Option (G_Parts) := match cs with | [c0, c1, c2, c3, c4] => (dStr c0).bind fun b1 => (dStr c1).bind fun b2 => (dStr c2).bind fun b3 => (dInt .i64 c3).bind fun b4 => (dStr c4).bind fun b5 => some ⟨b1, b2, b3, b4, b5⟩ | _ => none
def enc_e131 (x : G_band_onBand) : List (D A) := [.str x.f_call, .int .i64 x.f_band]
def dec_e131 (cs : List (D A)) : Option (G_band_onBand) := match cs with | [c0, c1] => (dStr c0).bind fun b1 => (dInt .i64 c1).bind fun b2 => some ⟨b1, b2⟩ | _ => none
def enc_e140 (x : G_log_worked) : List (D A) := [.str x.f_base, .str x.f_band, .int .i64 x.f_mode]
def dec_e140 (cs : List (D A)) : Option (G_log_worked) := match cs with | [c0, c1, c2] => (dStr c0).bind fun b1 => (dStr c1).bind fun b2 => (dInt .i64 c2).bind fun b3 => some ⟨b1, b2, b3⟩ | _ => none
def enc_e143 (x : G_Place) : List (D A) := [.int .i64 x.f_Rank, .int .i64 x.f_Points, .str x.f_Key]
def dec_e143 (cs : List (D A)) : Option (G_Place) := match cs with | [c0, c1, c2] => (dInt .i64 c0).bind fun b1 => (dInt .i64 c1).bind fun b2 => (dStr c2).bind fun b3 => some ⟨b1, b2, b3⟩ | _ => none
def enc_e225 (x : G_net_own) : List (D A) := [.str x.f_site, .int .i64 x.f_no]
def dec_e225 (cs : List (D A)) : Option (G_net_own) := match cs with | [c0, c1] => (dStr c0).bind fun b1 => (dInt .i64 c1).bind fun b2 => some ⟨b1, b2⟩ | _ => none
def encE : (k : El) → AE k → List (D A)
 | .e3, x => enc_e3 x
 | .e4, x => enc_e4 x
 | .e9, x => enc_e9 x
 | .e25, x => enc_e25 x
 | .e38, x => enc_e38 x
 | .e42, x => enc_e42 x
 | .e62, x => enc_e62 x
 | .e72, x => enc_e72 x
 | .e88, x => enc_e88 x
 | .e93, x => enc_e93 x
 | .e123, x => enc_e123 x
 | .e131, x => enc_e131 x
 | .e140, x => enc_e140 x
 | .e143, x => enc_e143 x
 | .e225, x => enc_e225 x
 | .no, _ => [.nilif]
def decE : (k : El) → List (D A) → Option (AE k)
 | .e3, cs => dec_e3 cs
 | .e4, cs => dec_e4 cs
 | .e9, cs => dec_e9 cs
 | .e25, cs => dec_e25 cs
 | .e38, cs => dec_e38 cs
 | .e42, cs => dec_e42 cs
 | .e62, cs => dec_e62 cs
 | .e72, cs => dec_e72 cs
 | .e88, cs => dec_e88 cs
 | .e93, cs => dec_e93 cs
 | .e123, cs => dec_e123 cs
 | .e131, cs => dec_e131 cs
 | .e140, cs => dec_e140 cs
 | .e143, cs => dec_e143 cs
 | .e225, cs => dec_e225 cs
 | .no, _ => none
def aggE : El → Bool
 | .e3 => false
 | .e4 => false
 | .e9 => false
 | .e25 => true
 | .e38 => true
 | .e42 => true
 | .e62 => true
 | .e72 => true
 | .e88 => true
 | .e93 => true
 | .e123 => true
 | .e131 => true
 | .e140 => true
 | .e143 => true
 | .e225 => true
 | .no => false
def T : Ty A where
 size := fun e => sizeE (el e)
 enc := fun e x => encE (el e) x
 dec := fun e cs => decE (el e) cs
 agg := fun e => aggE (el e)
theorem lenE : ∀ k x, (encE k x).length = sizeE k := by intro k x; cases k <;> rfl
theorem posE : ∀ k, 0 < sizeE k := by intro k; cases k <;> decide
theorem dok_e3 {U : Ty A} {cs : List (D A)} {x : Int} (h : dec_e3 cs = some x) : OkL U cs (enc_e3 x) := by
 unfold dec_e3 at h
 split at h
 ·simp only [Option.bind_eq_some_iff] at h
  obtain ⟨b1, h1, hx⟩ := h
  obtain rfl := Option.some.inj hx
  exact (.cons (gInt h1) .nil)
 ·cases h
theorem flt_e3 (x : Int) : (enc_e3 x).all D.plain = true := rfl
theorem dok_e4 {U : Ty A} {cs : List (D A)} {x : Bool} (h : dec_e4 cs = some x) : OkL U cs (enc_e4 x) := by
 unfold dec_e4 at h
 split at h
 ·simp only [Option.bind_eq_some_iff] at h
  obtain ⟨b1, h1, hx⟩ := h
  obtain rfl := Option.some.inj hx
  exact (.cons (gBool h1) .nil)
 ·cases h
theorem flt_e4 (x : Bool) : (enc_e4 x).all D.plain = true := rfl
theorem dok_e9 {U : Ty A} {cs : List (D A)} {x : List UInt8} (h : dec_e9 cs = some x) : OkL U cs (enc_e9 x) := by
 unfold dec_e9 at h
 split at h
 ·simp only [Option.bind_eq_some_iff] at h
  obtain ⟨b1, h1, hx⟩ := h
  obtain rfl := Option.some.inj hx
  exact (.cons (gStr h1) .nil)
 ·cases h
theorem flt_e9 (x : List UInt8) : (enc_e9 x).all D.plain = true := rfl
theorem dok_e25 {U : Ty A} {cs : List (D A)} {x : G_Stream} (h : dec_e25 cs = some x) : OkL U cs (enc_e25 x) := by
 unfold dec_e25 at h
 split at h
 ·simp only [Option.bind_eq_some_iff] at h
  obtain ⟨b1, h1, b2, h2, hx⟩ := h
  obtain rfl := Option.some.inj hx
  exact (.cons (gSl h1) (.cons (gInt h2) .nil))
 ·cases h
theorem dok_e38 {U : Ty A} {cs : List (D A)} {x : G_Contact} (h : dec_e38 cs = some x) : OkL U cs (enc_e38 x) := by
 unfold dec_e38 at h
 split at h
 ·simp only [Option.bind_eq_some_iff] at h
  obtain ⟨b1, h1, b2, h2, b3, h3, b4, h4, b5, h5, b6, h6, b7, h7, b8, h8, hx⟩ := h
  obtain rfl := Option.some.inj hx
  exact (.cons (gInt h1) (.cons (gInt h2) (.cons (gStr h3) (.cons (gStr h4) (.cons (gInt h5) (.cons (gInt h6) (.cons (gStr h7) (.cons (gStr h8) .nil))))))))
 ·cases h
theorem flt_e38 (x : G_Contact) : (enc_e38 x).all D.plain = true := rfl
theorem dok_e42 {U : Ty A} {cs : List (D A)} {x : G_Spot} (h : dec_e42 cs = some x) : OkL U cs (enc_e42 x) := by
 unfold dec_e42 at h
 split at h
 ·simp only [Option.bind_eq_some_iff] at h
  obtain ⟨b1, h1, b2, h2, b3, h3, b4, h4, hx⟩ := h
  obtain rfl := Option.some.inj hx
  exact (.cons (gInt h1) (.cons (gInt h2) (.cons (gStr h3) (.cons (gStr h4) .nil))))
 ·cases h
theorem flt_e42 (x : G_Spot) : (enc_e42 x).all D.plain = true := rfl
theorem dok_e62 {U : Ty A} {cs : List (D A)} {x : G_Band} (h : dec_e62 cs = some x) : OkL U cs (enc_e62 x) := by
 unfold dec_e62 at h
 split at h
 ·simp only [Option.bind_eq_some_iff] at h
  obtain ⟨b1, h1, b2, h2, b3, h3, hx⟩ := h
  obtain rfl := Option.some.inj hx
  exact (.cons (gStr h1) (.cons (gInt h2) (.cons (gInt h3) .nil)))
 ·cases h
theorem flt_e62 (x : G_Band) : (enc_e62 x).all D.plain = true := rfl
theorem dok_e72 {U : Ty A} {cs : List (D A)} {x : G_band_worked} (h : dec_e72 cs = some x) : OkL U cs (enc_e72 x) := by
 unfold dec_e72 at h
 split at h
 ·simp only [Option.bind_eq_some_iff] at h
  obtain ⟨b1, h1, b2, h2, hx⟩ := h
  obtain rfl := Option.some.inj hx
  exact (.cons (gStr h1) (.cons (gStr h2) .nil))
 ·cases h
theorem flt_e72 (x : G_band_worked) : (enc_e72 x).all D.plain = true := rfl
theorem dok_e88 {U : Ty A} {cs : List (D A)} {x : G_Entrant} (h : dec_e88 cs = some x) : OkL U cs (enc_e88 x) := by
 unfold dec_e88 at h
 split at h
 ·simp only [Option.bind_eq_some_iff] at h
  obtain ⟨b1, h1, b2, h2, b3, h3, b4, h4, hx⟩ := h
  obtain rfl := Option.some.inj hx
  exact (.cons (gStr h1) (.cons (gStr h2) (.cons (gInt h3) (.cons (gStr h4) .nil))))
 ·cases h
theorem flt_e88 (x : G_Entrant) : (enc_e88 x).all D.plain = true := rfl
theorem dok_e93 {U : Ty A} {cs : List (D A)} {x : G_Deed} (h : dec_e93 cs = some x) : OkL U cs (enc_e93 x) := by
 unfold dec_e93 at h
 split at h
 ·simp only [Option.bind_eq_some_iff] at h
  obtain ⟨b1, h1, b2, h2, b3, h3, b4, h4, b5, h5, b6, h6, b7, h7, b8, h8, b9, h9, b10, h10, b11, h11, b12, h12, b13, h13, b14, h14, b15, h15, hx⟩ := h
  obtain rfl := Option.some.inj hx
  exact (.cons (gStr h1) (.cons (gInt h2) (.cons (gInt h3) (.cons (gInt h4) (.cons (gInt h5) (.cons (gInt h6) (.cons (gStr h7) (.cons (gStr h8) (.cons (gInt h9) (.cons (gInt h10) (.cons (gStr h11) (.cons (gStr h12) (.cons (gStr h13) (.cons (gStr h14) (.cons (gInt h15) .nil)))))))))))))))
 ·cases h
theorem flt_e93 (x : G_Deed) : (enc_e93 x).all D.plain = true := rfl
theorem dok_e123 {U : Ty A} {cs : List (D A)} {x : G_Parts} (h : dec_e123 cs = some x) : OkL U cs (enc_e123 x) := by
 unfold dec_e123 at h
 split at h
 ·simp only [Option.bind_eq_some_iff] at h
  obtain ⟨b1, h1, b2, h2, b3, h3, b4, h4, b5, h5, hx⟩ := h
  obtain rfl := Option.some.inj hx
  exact (.cons (gStr h1) (.cons (gStr h2) (.cons (gStr h3) (.cons (gInt h4) (.cons (gStr h5) .nil)))))
 ·cases h
theorem flt_e123 (x : G_Parts) : (enc_e123 x).all D.plain = true := rfl
theorem dok_e131 {U : Ty A} {cs : List (D A)} {x : G_band_onBand} (h : dec_e131 cs = some x) : OkL U cs (enc_e131 x) := by
 unfold dec_e131 at h
 split at h
 ·simp only [Option.bind_eq_some_iff] at h
  obtain ⟨b1, h1, b2, h2, hx⟩ := h
  obtain rfl := Option.some.inj hx
  exact (.cons (gStr h1) (.cons (gInt h2) .nil))
 ·cases h
theorem flt_e131 (x : G_band_onBand) : (enc_e131 x).all D.plain = true := rfl
theorem dok_e140 {U : Ty A} {cs : List (D A)} {x : G_log_worked} (h : dec_e140 cs = some x) : OkL U cs (enc_e140 x) := by
 unfold dec_e140 at h
 split at h
 ·simp only [Option.bind_eq_some_iff] at h
  obtain ⟨b1, h1, b2, h2, b3, h3, hx⟩ := h
  obtain rfl := Option.some.inj hx
  exact (.cons (gStr h1) (.cons (gStr h2) (.cons (gInt h3) .nil)))
 ·cases h
theorem flt_e140 (x : G_log_worked) : (enc_e140 x).all D.plain = true := rfl
theorem dok_e143 {U : Ty A} {cs : List (D A)} {x : G_Place} (h : dec_e143 cs = some x) : OkL U cs (enc_e143 x) := by
 unfold dec_e143 at h
 split at h
 ·simp only [Option.bind_eq_some_iff] at h
  obtain ⟨b1, h1, b2, h2, b3, h3, hx⟩ := h
  obtain rfl := Option.some.inj hx
  exact (.cons (gInt h1) (.cons (gInt h2) (.cons (gStr h3) .nil)))
 ·cases h
theorem flt_e143 (x : G_Place) : (enc_e143 x).all D.plain = true := rfl
theorem dok_e225 {U : Ty A} {cs : List (D A)} {x : G_net_own} (h : dec_e225 cs = some x) : OkL U cs (enc_e225 x) := by
 unfold dec_e225 at h
 split at h
 ·simp only [Option.bind_eq_some_iff] at h
  obtain ⟨b1, h1, b2, h2, hx⟩ := h
  obtain rfl := Option.some.inj hx
  exact (.cons (gStr h1) (.cons (gInt h2) .nil))
 ·cases h
theorem flt_e225 (x : G_net_own) : (enc_e225 x).all D.plain = true := rfl
def TD : Ty A := T.day
theorem decOk {U : Ty A} : ∀ k cs x, decE k cs = some x → OkL U cs (encE k x) := by
 intro k cs x h
 cases k
 case e3 => exact dok_e3 h
 case e4 => exact dok_e4 h
 case e9 => exact dok_e9 h
 case e25 => exact dok_e25 h
 case e38 => exact dok_e38 h
 case e42 => exact dok_e42 h
 case e62 => exact dok_e62 h
 case e72 => exact dok_e72 h
 case e88 => exact dok_e88 h
 case e93 => exact dok_e93 h
 case e123 => exact dok_e123 h
 case e131 => exact dok_e131 h
 case e140 => exact dok_e140 h
 case e143 => exact dok_e143 h
 case e225 => exact dok_e225 h
 case no => cases h
theorem tyOkD (P : Program) : TyOk P TD := ⟨fun e x => lenE (el e) x, fun e => posE (el e), fun e cs x h => by
 obtain ⟨h1, h2⟩ := decOk (U := TD) (el e) cs x h
 exact ⟨h1.trans (lenE (el e) x), h2⟩⟩
theorem tyOk (P : Program) : TyOk P T := ⟨fun e x => lenE (el e) x, fun e => posE (el e), fun e cs x h => by
 obtain ⟨h1, h2⟩ := decOk (el e) cs x h
 exact ⟨h1.trans (lenE (el e) x), h2⟩⟩
def flatE : El → Bool
 | .e3 => true
 | .e4 => true
 | .e9 => true
 | .e25 => false
 | .e38 => true
 | .e42 => true
 | .e62 => true
 | .e72 => true
 | .e88 => true
 | .e93 => true
 | .e123 => true
 | .e131 => true
 | .e140 => true
 | .e143 => true
 | .e225 => true
 | .no => false
def flatT (e : Nat) : Bool := flatE (el e)
theorem flatEOk : ∀ k, flatE k = true → ∀ x d, d ∈ encE k x → D.plain d = true := by
 intro k h x d hd
 cases k
 case e3 => exact List.all_eq_true.1 (flt_e3 x) d hd
 case e4 => exact List.all_eq_true.1 (flt_e4 x) d hd
 case e9 => exact List.all_eq_true.1 (flt_e9 x) d hd
 case e25 => cases h
 case e38 => exact List.all_eq_true.1 (flt_e38 x) d hd
 case e42 => exact List.all_eq_true.1 (flt_e42 x) d hd
 case e62 => exact List.all_eq_true.1 (flt_e62 x) d hd
 case e72 => exact List.all_eq_true.1 (flt_e72 x) d hd
 case e88 => exact List.all_eq_true.1 (flt_e88 x) d hd
 case e93 => exact List.all_eq_true.1 (flt_e93 x) d hd
 case e123 => exact List.all_eq_true.1 (flt_e123 x) d hd
 case e131 => exact List.all_eq_true.1 (flt_e131 x) d hd
 case e140 => exact List.all_eq_true.1 (flt_e140 x) d hd
 case e143 => exact List.all_eq_true.1 (flt_e143 x) d hd
 case e225 => exact List.all_eq_true.1 (flt_e225 x) d hd
 case no => cases h
def eq_G_Contact (x y : G_Contact) : Bool := (x.f_At == y.f_At && (x.f_Mode == y.f_Mode && (x.f_Band == y.f_Band && (x.f_Call == y.f_Call && (x.f_Sent == y.f_Sent && (x.f_Heard == y.f_Heard && (x.f_Gave == y.f_Gave && (x.f_Got == y.f_Got && true))))))))
def eq_G_Spot (x y : G_Spot) : Bool := (x.f_At == y.f_At && (x.f_Hertz == y.f_Hertz && (x.f_Call == y.f_Call && (x.f_By == y.f_By && true))))
def mget_int_int (x : Int) (m : List (Int × Int)) : Option Int := getM T 3 3 x m
def mdel_int_int (x : Int) (m : List (Int × Int)) : List (Int × Int) := delM T 3 3 x m
def mset_int_int (x : Int) (y : Int) (m : List (Int × Int)) : List (Int × Int) := setM T 3 3 x y m
def keq_int (x y : Int) : Bool := (x == y && true)
theorem mget_int_int_nil (x : Int) : mget_int_int x [] = none := by kernel_rfl
theorem mget_int_int_cons (x : Int) (p : Int × Int) (m : List (Int × Int)) : mget_int_int x (p :: m) = bif keq_int x p.1 then some p.2 else mget_int_int x m := by kernel_rfl
theorem mdel_int_int_nil (x : Int) : mdel_int_int x [] = [] := by kernel_rfl
theorem mdel_int_int_cons (x : Int) (p : Int × Int) (m : List (Int × Int)) : mdel_int_int x (p :: m) = bif keq_int x p.1 then m else p :: mdel_int_int x m := by kernel_rfl
theorem mset_int_int_nil (x : Int) (y : Int) : mset_int_int x y [] = [(x, y)] := by kernel_rfl
theorem mset_int_int_cons (x : Int) (y : Int) (p : Int × Int) (m : List (Int × Int)) : mset_int_int x y (p :: m) = bif keq_int x p.1 then (x, y) :: m else p :: mset_int_int x y m := by kernel_rfl
def mget_Contact_Deed (x : G_Contact) (m : List (G_Contact × G_Deed)) : Option G_Deed := getM T 38 93 x m
def mdel_Contact_Deed (x : G_Contact) (m : List (G_Contact × G_Deed)) : List (G_Contact × G_Deed) := delM T 38 93 x m
def mset_Contact_Deed (x : G_Contact) (y : G_Deed) (m : List (G_Contact × G_Deed)) : List (G_Contact × G_Deed) := setM T 38 93 x y m
def keq_Contact (x y : G_Contact) : Bool := (x.f_At == y.f_At && (x.f_Mode == y.f_Mode && (x.f_Band == y.f_Band && (x.f_Call == y.f_Call && (x.f_Sent == y.f_Sent && (x.f_Heard == y.f_Heard && (x.f_Gave == y.f_Gave && (x.f_Got == y.f_Got && true))))))))
theorem mget_Contact_Deed_nil (x : G_Contact) : mget_Contact_Deed x [] = none := by kernel_rfl
theorem mget_Contact_Deed_cons (x : G_Contact) (p : G_Contact × G_Deed) (m : List (G_Contact × G_Deed)) : mget_Contact_Deed x (p :: m) = bif keq_Contact x p.1 then some p.2 else mget_Contact_Deed x m := by kernel_rfl
theorem mdel_Contact_Deed_nil (x : G_Contact) : mdel_Contact_Deed x [] = [] := by kernel_rfl
theorem mdel_Contact_Deed_cons (x : G_Contact) (p : G_Contact × G_Deed) (m : List (G_Contact × G_Deed)) : mdel_Contact_Deed x (p :: m) = bif keq_Contact x p.1 then m else p :: mdel_Contact_Deed x m := by kernel_rfl
theorem mset_Contact_Deed_nil (x : G_Contact) (y : G_Deed) : mset_Contact_Deed x y [] = [(x, y)] := by kernel_rfl
theorem mset_Contact_Deed_cons (x : G_Contact) (y : G_Deed) (p : G_Contact × G_Deed) (m : List (G_Contact × G_Deed)) : mset_Contact_Deed x y (p :: m) = bif keq_Contact x p.1 then (x, y) :: m else p :: mset_Contact_Deed x y m := by kernel_rfl
def mget_band_worked_bool (x : G_band_worked) (m : List (G_band_worked × Bool)) : Option Bool := getM T 72 4 x m
def mdel_band_worked_bool (x : G_band_worked) (m : List (G_band_worked × Bool)) : List (G_band_worked × Bool) := delM T 72 4 x m
def mset_band_worked_bool (x : G_band_worked) (y : Bool) (m : List (G_band_worked × Bool)) : List (G_band_worked × Bool) := setM T 72 4 x y m
def keq_band_worked (x y : G_band_worked) : Bool := (x.f_base == y.f_base && (x.f_band == y.f_band && true))
theorem mget_band_worked_bool_nil (x : G_band_worked) : mget_band_worked_bool x [] = none := by kernel_rfl
theorem mget_band_worked_bool_cons (x : G_band_worked) (p : G_band_worked × Bool) (m : List (G_band_worked × Bool)) : mget_band_worked_bool x (p :: m) = bif keq_band_worked x p.1 then some p.2 else mget_band_worked_bool x m := by kernel_rfl
theorem mdel_band_worked_bool_nil (x : G_band_worked) : mdel_band_worked_bool x [] = [] := by kernel_rfl
theorem mdel_band_worked_bool_cons (x : G_band_worked) (p : G_band_worked × Bool) (m : List (G_band_worked × Bool)) : mdel_band_worked_bool x (p :: m) = bif keq_band_worked x p.1 then m else p :: mdel_band_worked_bool x m := by kernel_rfl
theorem mset_band_worked_bool_nil (x : G_band_worked) (y : Bool) : mset_band_worked_bool x y [] = [(x, y)] := by kernel_rfl
theorem mset_band_worked_bool_cons (x : G_band_worked) (y : Bool) (p : G_band_worked × Bool) (m : List (G_band_worked × Bool)) : mset_band_worked_bool x y (p :: m) = bif keq_band_worked x p.1 then (x, y) :: m else p :: mset_band_worked_bool x y m := by kernel_rfl
def mget_band_onBand_bool (x : G_band_onBand) (m : List (G_band_onBand × Bool)) : Option Bool := getM T 131 4 x m
def mdel_band_onBand_bool (x : G_band_onBand) (m : List (G_band_onBand × Bool)) : List (G_band_onBand × Bool) := delM T 131 4 x m
def mset_band_onBand_bool (x : G_band_onBand) (y : Bool) (m : List (G_band_onBand × Bool)) : List (G_band_onBand × Bool) := setM T 131 4 x y m
def keq_band_onBand (x y : G_band_onBand) : Bool := (x.f_call == y.f_call && (x.f_band == y.f_band && true))
theorem mget_band_onBand_bool_nil (x : G_band_onBand) : mget_band_onBand_bool x [] = none := by kernel_rfl
theorem mget_band_onBand_bool_cons (x : G_band_onBand) (p : G_band_onBand × Bool) (m : List (G_band_onBand × Bool)) : mget_band_onBand_bool x (p :: m) = bif keq_band_onBand x p.1 then some p.2 else mget_band_onBand_bool x m := by kernel_rfl
theorem mdel_band_onBand_bool_nil (x : G_band_onBand) : mdel_band_onBand_bool x [] = [] := by kernel_rfl
theorem mdel_band_onBand_bool_cons (x : G_band_onBand) (p : G_band_onBand × Bool) (m : List (G_band_onBand × Bool)) : mdel_band_onBand_bool x (p :: m) = bif keq_band_onBand x p.1 then m else p :: mdel_band_onBand_bool x m := by kernel_rfl
theorem mset_band_onBand_bool_nil (x : G_band_onBand) (y : Bool) : mset_band_onBand_bool x y [] = [(x, y)] := by kernel_rfl
theorem mset_band_onBand_bool_cons (x : G_band_onBand) (y : Bool) (p : G_band_onBand × Bool) (m : List (G_band_onBand × Bool)) : mset_band_onBand_bool x y (p :: m) = bif keq_band_onBand x p.1 then (x, y) :: m else p :: mset_band_onBand_bool x y m := by kernel_rfl
def mget_log_worked_bool (x : G_log_worked) (m : List (G_log_worked × Bool)) : Option Bool := getM T 140 4 x m
def mdel_log_worked_bool (x : G_log_worked) (m : List (G_log_worked × Bool)) : List (G_log_worked × Bool) := delM T 140 4 x m
def mset_log_worked_bool (x : G_log_worked) (y : Bool) (m : List (G_log_worked × Bool)) : List (G_log_worked × Bool) := setM T 140 4 x y m
def keq_log_worked (x y : G_log_worked) : Bool := (x.f_base == y.f_base && (x.f_band == y.f_band && (x.f_mode == y.f_mode && true)))
theorem mget_log_worked_bool_nil (x : G_log_worked) : mget_log_worked_bool x [] = none := by kernel_rfl
theorem mget_log_worked_bool_cons (x : G_log_worked) (p : G_log_worked × Bool) (m : List (G_log_worked × Bool)) : mget_log_worked_bool x (p :: m) = bif keq_log_worked x p.1 then some p.2 else mget_log_worked_bool x m := by kernel_rfl
theorem mdel_log_worked_bool_nil (x : G_log_worked) : mdel_log_worked_bool x [] = [] := by kernel_rfl
theorem mdel_log_worked_bool_cons (x : G_log_worked) (p : G_log_worked × Bool) (m : List (G_log_worked × Bool)) : mdel_log_worked_bool x (p :: m) = bif keq_log_worked x p.1 then m else p :: mdel_log_worked_bool x m := by kernel_rfl
theorem mset_log_worked_bool_nil (x : G_log_worked) (y : Bool) : mset_log_worked_bool x y [] = [(x, y)] := by kernel_rfl
theorem mset_log_worked_bool_cons (x : G_log_worked) (y : Bool) (p : G_log_worked × Bool) (m : List (G_log_worked × Bool)) : mset_log_worked_bool x y (p :: m) = bif keq_log_worked x p.1 then (x, y) :: m else p :: mset_log_worked_bool x y m := by kernel_rfl
def mget_net_own_bool (x : G_net_own) (m : List (G_net_own × Bool)) : Option Bool := getM T 225 4 x m
def mdel_net_own_bool (x : G_net_own) (m : List (G_net_own × Bool)) : List (G_net_own × Bool) := delM T 225 4 x m
def mset_net_own_bool (x : G_net_own) (y : Bool) (m : List (G_net_own × Bool)) : List (G_net_own × Bool) := setM T 225 4 x y m
def keq_net_own (x y : G_net_own) : Bool := (x.f_site == y.f_site && (x.f_no == y.f_no && true))
theorem mget_net_own_bool_nil (x : G_net_own) : mget_net_own_bool x [] = none := by kernel_rfl
theorem mget_net_own_bool_cons (x : G_net_own) (p : G_net_own × Bool) (m : List (G_net_own × Bool)) : mget_net_own_bool x (p :: m) = bif keq_net_own x p.1 then some p.2 else mget_net_own_bool x m := by kernel_rfl
theorem mdel_net_own_bool_nil (x : G_net_own) : mdel_net_own_bool x [] = [] := by kernel_rfl
theorem mdel_net_own_bool_cons (x : G_net_own) (p : G_net_own × Bool) (m : List (G_net_own × Bool)) : mdel_net_own_bool x (p :: m) = bif keq_net_own x p.1 then m else p :: mdel_net_own_bool x m := by kernel_rfl
theorem mset_net_own_bool_nil (x : G_net_own) (y : Bool) : mset_net_own_bool x y [] = [(x, y)] := by kernel_rfl
theorem mset_net_own_bool_cons (x : G_net_own) (y : Bool) (p : G_net_own × Bool) (m : List (G_net_own × Bool)) : mset_net_own_bool x y (p :: m) = bif keq_net_own x p.1 then (x, y) :: m else p :: mset_net_own_bool x y m := by kernel_rfl
theorem ko_3x (x p : Int) : eqT Tryz.prog 64 3 (packAV T 3 x) (packAV T 3 p) = some ((x : Int) == (p : Int)) := by kernel_rfl
theorem ko_3y (x p : Int) : some (eqDs (T.enc 3 x) (T.enc 3 p)) = some ((x == p) && true) := by kernel_rfl
theorem ko_3z (x p : Int) : eqT Tryz.prog 64 3 (packAV T 3 x) (packAV T 3 p) = some (eqDs (T.enc 3 x) (T.enc 3 p)) := (ko_3x x p).trans (((congrArg some (Bool.and_true (x == p))).symm).trans (ko_3y x p).symm)
theorem ko_3 : KeyOk Tryz.prog T 3 := fun x p => ko_3z x p
theorem kd_3 : ∃ kd, Tryz.prog.underlying 3 = some kd := Option.isSome_iff_exists.1 (by kernel_rfl)
theorem ko_38x (x p : G_Contact) : eqT Tryz.prog 64 38 (packAV T 38 x) (packAV T 38 p) = some (eqDs (T.enc 38 x) (T.enc 38 p)) := by kernel_rfl
theorem ko_38 : KeyOk Tryz.prog T 38 := by
 intro x p
 exact ko_38x x p
theorem kd_38 : ∃ kd, Tryz.prog.underlying 38 = some kd := Option.isSome_iff_exists.1 (by kernel_rfl)
theorem ko_72x (x p : G_band_worked) : eqT Tryz.prog 64 72 (packAV T 72 x) (packAV T 72 p) = some (eqDs (T.enc 72 x) (T.enc 72 p)) := by kernel_rfl
theorem ko_72 : KeyOk Tryz.prog T 72 := by
 intro x p
 exact ko_72x x p
theorem kd_72 : ∃ kd, Tryz.prog.underlying 72 = some kd := Option.isSome_iff_exists.1 (by kernel_rfl)
theorem ko_131x (x p : G_band_onBand) : eqT Tryz.prog 64 131 (packAV T 131 x) (packAV T 131 p) = some (eqDs (T.enc 131 x) (T.enc 131 p)) := by kernel_rfl
theorem ko_131 : KeyOk Tryz.prog T 131 := by
 intro x p
 exact ko_131x x p
theorem kd_131 : ∃ kd, Tryz.prog.underlying 131 = some kd := Option.isSome_iff_exists.1 (by kernel_rfl)
theorem ko_140x (x p : G_log_worked) : eqT Tryz.prog 64 140 (packAV T 140 x) (packAV T 140 p) = some (eqDs (T.enc 140 x) (T.enc 140 p)) := by kernel_rfl
theorem ko_140 : KeyOk Tryz.prog T 140 := by
 intro x p
 exact ko_140x x p
theorem kd_140 : ∃ kd, Tryz.prog.underlying 140 = some kd := Option.isSome_iff_exists.1 (by kernel_rfl)
theorem ko_225x (x p : G_net_own) : eqT Tryz.prog 64 225 (packAV T 225 x) (packAV T 225 p) = some (eqDs (T.enc 225 x) (T.enc 225 p)) := by kernel_rfl
theorem ko_225 : KeyOk Tryz.prog T 225 := by
 intro x p
 exact ko_225x x p
theorem kd_225 : ∃ kd, Tryz.prog.underlying 225 = some kd := Option.isSome_iff_exists.1 (by kernel_rfl)
def keyT (k : Nat) : Bool := k == 3 || k == 38 || k == 72 || k == 131 || k == 140 || k == 225
theorem keysOk : ∀ k, keyT k = true → KeyOk Tryz.prog T k ∧ ∃ kd, Tryz.prog.underlying k = some kd := by
 intro k h
 simp only [keyT, Bool.or_eq_true, beq_iff_eq] at h
 rcases h with ((((rfl | rfl) | rfl) | rfl) | rfl) | rfl
 ·exact ⟨ko_3, kd_3⟩
 ·exact ⟨ko_38, kd_38⟩
 ·exact ⟨ko_72, kd_72⟩
 ·exact ⟨ko_131, kd_131⟩
 ·exact ⟨ko_140, kd_140⟩
 ·exact ⟨ko_225, kd_225⟩
theorem flatOk : FlatOk T flatT := fun e h x d hd => flatEOk (el e) h x d hd
def spT : List (Nat × Sp A) := []
theorem spAll : SpAll Tryz.prog T spT := .nil
theorem std : Std Tryz.prog T keyT flatT (fun f => spT.lookup f) := ⟨tyOk Tryz.prog, flatOk, keysOk, spAll.ok, by kernel_rfl⟩
abbrev Ok (f : Nat) (S : Spec A) : Prop := OkF Tryz.prog T f S
theorem stdD : Std Tryz.prog TD keyT flatT (fun _ => none) := ⟨tyOkD Tryz.prog, fun e h x d hd => flatEOk (el e) h x d hd, keysOk, fun _ _ h => (by cases h), by kernel_rfl⟩
abbrev OkD (f : Nat) (S : Spec A) : Prop := OkF Tryz.prog TD f S
noncomputable def mkE (C : List (Nat × Spec A)) (tg : List (Nat × List Nat)) (lh xh : List (Nat × Hint)) (cl : List (Nat × Piece A)) (sh xs : List (Nat × Hint)) (cs : List (Nat × Piece A)) (md : List (Nat × Nat)) (pin : List Nat) : Env A :=
 { P := Tryz.prog, T := T, C := fun f => C.lookup f, tg := fun d => (tg.lookup d).getD [], seqH := fun i => sh.lookup i, loopH := fun i => lh.lookup i, exitH := fun i => xh.lookup i, exitS := fun i => xs.lookup i, cutS := fun i => cs.lookup i, cutL := fun i => cl.lookup i, mode := fun f i => md.contains (f, i), sp := fun f => spT.lookup f, keyed := keyT, flat := flatT, pin := pin }
noncomputable def mkED (C : List (Nat × Spec A)) (tg : List (Nat × List Nat)) (lh xh : List (Nat × Hint)) (cl : List (Nat × Piece A)) (sh xs : List (Nat × Hint)) (cs : List (Nat × Piece A)) (md : List (Nat × Nat)) (pin : List Nat) : Env A :=
 { P := Tryz.prog, T := TD, C := fun f => C.lookup f, tg := fun d => (tg.lookup d).getD [], seqH := fun i => sh.lookup i, loopH := fun i => lh.lookup i, exitH := fun i => xh.lookup i, exitS := fun i => xs.lookup i, cutS := fun i => cs.lookup i, cutL := fun i => cl.lookup i, mode := fun f i => md.contains (f, i), keyed := keyT, flat := flatT, pin := pin }
end Go.Am
