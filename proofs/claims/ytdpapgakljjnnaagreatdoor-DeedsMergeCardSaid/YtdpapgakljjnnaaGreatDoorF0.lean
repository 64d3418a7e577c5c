/- The functions of the program as Lean functions, each shown to be what the code computes, part 0. No condition: lemmas for the claim. -/
import Derived.Test.YtdpapgakljjnnaaGreatDoorAmPrint
import Derived.Test.YtdpapgakljjnnaaGreatDoorAmIn
import Derived.Test.YtdpapgakljjnnaaGreatDoorProg
import Derived.KernelRfl
set_option linter.unusedVariables false
set_option maxRecDepth 100000
namespace Go.Am
open Go Go.Proofs
structure G_Stream where
 f_L : List Int
 f_at : Int
 deriving DecidableEq
structure G_Contact where
 f_At : Int
 f_Mode : Int
 f_Band : List UInt8
 f_Call : List UInt8
 f_Sent : Int
 f_Heard : Int
 f_Gave : List UInt8
 f_Got : List UInt8
 deriving DecidableEq
structure G_Deed where
 f_Site : List UInt8
 f_No : Int
 f_At : Int
 f_Kind : Int
 f_Contact : G_Contact
 f_Band : List UInt8
 f_Of : List UInt8
 f_Other : Int
 deriving DecidableEq
structure G_net_own where
 f_site : List UInt8
 f_no : Int
 deriving DecidableEq
structure G_Parts where
 f_Base : List UInt8
 f_Prefix : List UInt8
 f_Suffix : List UInt8
 f_Kind : Int
 f_Added : List UInt8
 deriving DecidableEq
inductive El where
 | e3 | e4 | e9 | e25 | e26 | e33 | e35 | e37 | e102 | e160 | no
def el : Nat → El
 | 3 => .e3
 | 4 => .e4
 | 9 => .e9
 | 25 => .e25
 | 26 => .e26
 | 33 => .e33
 | 35 => .e35
 | 37 => .e37
 | 102 => .e102
 | 160 => .e160
 | _ => .no
def AE : El → Type
 | .e3 => Int
 | .e4 => Bool
 | .e9 => List UInt8
 | .e25 => G_Stream
 | .e26 => List G_Deed
 | .e33 => G_Contact
 | .e35 => G_Deed
 | .e37 => Int
 | .e102 => G_net_own
 | .e160 => G_Parts
 | .no => Unit
abbrev A (e : Nat) : Type := AE (el e)
def sizeE : El → Nat
 | .e3 => 1
 | .e4 => 1
 | .e9 => 1
 | .e25 => 2
 | .e26 => 1
 | .e33 => 8
 | .e35 => 15
 | .e37 => 1
 | .e102 => 2
 | .e160 => 5
 | .no => 1
def enc_e3 (x : Int) : List (D A) := [.int .i64 x]
def dec_e3 (cs : List (D A)) : Option (Int) := match cs with | [c0] => (dInt .i64 c0).bind fun b1 => some b1 | _ => none
def enc_e4 (x : Bool) : List (D A) := [.bool x]
def dec_e4 (cs : List (D A)) : Option (Bool) := match cs with | [c0] => (dBool c0).bind fun b1 => some b1 | _ => none
def enc_e9 (x : List UInt8) : List (D A) := [.str x]
def dec_e9 (cs : List (D A)) : Option (List UInt8) := match cs with | [c0] => (dStr c0).bind fun b1 => some b1 | _ => none
def enc_e25 (x : G_Stream) : List (D A) := [.sl 3 x.f_L, .int .i64 x.f_at]
def dec_e25 (cs : List (D A)) : Option (G_Stream) := match cs with | [c0, c1] => (dSl 3 c0).bind fun b1 => (dInt .i64 c1).bind fun b2 => some ⟨b1, b2⟩ | _ => none
def enc_e26 (x : List G_Deed) : List (D A) := [.sl 35 x]
def dec_e26 (cs : List (D A)) : Option (List G_Deed) := match cs with | [c0] => (dSl 35 c0).bind fun b1 => some b1 | _ => none
def enc_e33 (x : G_Contact) : List (D A) := [.int .i64 x.f_At, .int .i64 x.f_Mode, .str x.f_Band, .str x.f_Call, .int .i64 x.f_Sent, .int .i64 x.f_Heard, .str x.f_Gave, .str x.f_Got]
def dec_e33 (cs : List (D A)) : Option (G_Contact) := match cs with | [c0, c1, c2, c3, c4, c5, c6, c7] => (dInt .i64 c0).bind fun b1 => (dInt .i64 c1).bind fun b2 => (dStr c2).bind fun b3 => (dStr c3).bind fun b4 => (dInt .i64 c4).bind fun b5 => (dInt .i64 c5).bind fun b6 => (dStr c6).bind fun b7 => (dStr c7).bind fun b8 => some ⟨b1, b2, b3, b4, b5, b6, b7, b8⟩ | _ => none
def enc_e35 (x : G_Deed) : List (D A) := [.str x.f_Site, .int .i64 x.f_No, .int .i64 x.f_At, .int .i64 x.f_Kind, .int .i64 x.f_Contact.f_At, .int .i64 x.f_Contact.f_Mode, .str x.f_Contact.f_Band, .str x.f_Contact.f_Call, .int .i64 x.f_Contact.f_Sent, .int .i64 x.f_Contact.f_Heard, .str x.f_Contact.f_Gave, .str x.f_Contact.f_Got, .str x.f_Band, .str x.f_Of, .int .i64 x.f_Other]
def dec_e35 (cs : List (D A)) : Option (G_Deed) := match cs with | [c0, c1, c2, c3, c4, c5, c6, c7, c8, c9, c10, c11, c12, c13, c14] => (dStr c0).bind fun b1 => (dInt .i64 c1).bind fun b2 => (dInt .i64 c2).bind fun b3 => (dInt .i64 c3).bind fun b4 => (dInt .i64 c4).bind fun b5 => (dInt .i64 c5).bind fun b6 => (dStr c6).bind fun b7 => (dStr c7).bind fun b8 => (dInt .i64 c8).bind fun b9 => (dInt .i64 c9).bind fun b10 => (dStr c10).bind fun b11 => (dStr c11).bind fun b12 => (dStr c12).bind fun b13 => (dStr c13).bind fun b14 => (dInt .i64 c14).bind fun b15 => some ⟨b1, b2, b3, b4, ⟨b5, b6, b7, b8, b9, b10, b11, b12⟩, b13, b14, b15⟩ | _ => none
def enc_e37 (x : Int) : List (D A) := [.int .i64 x]
def dec_e37 (cs : List (D A)) : Option (Int) := match cs with | [c0] => (dInt .i64 c0).bind fun b1 => some b1 | _ => none
def enc_e102 (x : G_net_own) : List (D A) := [.str x.f_site, .int .i64 x.f_no]
def dec_e102 (cs : List (D A)) : Option (G_net_own) := match cs with | [c0, c1] => (dStr c0).bind fun b1 => (dInt .i64 c1).bind fun b2 => some ⟨b1, b2⟩ | _ => none
def enc_e160 (x : G_Parts) : List (D A) := [.str x.f_Base, .str x.f_Prefix, .str x.f_Suffix, .int .i64 x.f_Kind, .str x.f_Added]
def dec_e160 (cs : List (D A)) : Option (G_Parts) := match cs with | [c0, c1, c2, c3, c4] => (dStr c0).bind fun b1 => (dStr c1).bind fun b2 => (dStr c2).bind fun b3 => (dInt .i64 c3).bind fun b4 => (dStr c4).bind fun b5 => some ⟨b1, b2, b3, b4, b5⟩ | _ => none
def encE : (k : El) → AE k → List (D A)
 | .e3, x => enc_e3 x
 | .e4, x => enc_e4 x
 | .e9, x => enc_e9 x
 | .e25, x => enc_e25 x
 | .e26, x => enc_e26 x
 | .e33, x => enc_e33 x
 | .e35, x => enc_e35 x
 | .e37, x => enc_e37 x
 | .e102, x => enc_e102 x
 | .e160, x => enc_e160 x
 | .no, _ => [.nilif]
def decE : (k : El) → List (D A) → Option (AE k)
 | .e3, cs => dec_e3 cs
 | .e4, cs => dec_e4 cs
 | .e9, cs => dec_e9 cs
 | .e25, cs => dec_e25 cs
 | .e26, cs => dec_e26 cs
 | .e33, cs => dec_e33 cs
 | .e35, cs => dec_e35 cs
 | .e37, cs => dec_e37 cs
 | .e102, cs => dec_e102 cs
 | .e160, cs => dec_e160 cs
 | .no, _ => none
def aggE : El → Bool
 | .e3 => false
 | .e4 => false
 | .e9 => false
 | .e25 => true
 | .e26 => false
 | .e33 => true
 | .e35 => true
 | .e37 => false
 | .e102 => true
 | .e160 => true
 | .no => false
def T : Ty A where
 size := fun e => sizeE (el e)
 enc := fun e x => encE (el e) x
 dec := fun e cs => decE (el e) cs
 agg := fun e => aggE (el e)
theorem lenE : ∀ k x, (encE k x).length = sizeE k := by intro k x; cases k <;> rfl
theorem posE : ∀ k, 0 < sizeE k := by intro k; cases k <;> decide
theorem dok_e3 {U : Ty A} {cs : List (D A)} {x : Int} (h : dec_e3 cs = some x) : OkL U cs (enc_e3 x) := by
 unfold dec_e3 at h
 split at h
 ·simp only [Option.bind_eq_some_iff] at h
  obtain ⟨b1, h1, hx⟩ := h
  obtain rfl := Option.some.inj hx
  exact (.cons (gInt h1) .nil)
 ·cases h
theorem flt_e3 (x : Int) : (enc_e3 x).all D.plain = true := rfl
theorem dok_e4 {U : Ty A} {cs : List (D A)} {x : Bool} (h : dec_e4 cs = some x) : OkL U cs (enc_e4 x) := by
 unfold dec_e4 at h
 split at h
 ·simp only [Option.bind_eq_some_iff] at h
  obtain ⟨b1, h1, hx⟩ := h
  obtain rfl := Option.some.inj hx
  exact (.cons (gBool h1) .nil)
 ·cases h
theorem flt_e4 (x : Bool) : (enc_e4 x).all D.plain = true := rfl
theorem dok_e9 {U : Ty A} {cs : List (D A)} {x : List UInt8} (h : dec_e9 cs = some x) : OkL U cs (enc_e9 x) := by
 unfold dec_e9 at h
 split at h
 ·simp only [Option.bind_eq_some_iff] at h
  obtain ⟨b1, h1, hx⟩ := h
  obtain rfl := Option.some.inj hx
  exact (.cons (gStr h1) .nil)
 ·cases h
theorem flt_e9 (x : List UInt8) : (enc_e9 x).all D.plain = true := rfl
theorem dok_e25 {U : Ty A} {cs : List (D A)} {x : G_Stream} (h : dec_e25 cs = some x) : OkL U cs (enc_e25 x) := by
 unfold dec_e25 at h
 split at h
 ·simp only [Option.bind_eq_some_iff] at h
  obtain ⟨b1, h1, b2, h2, hx⟩ := h
  obtain rfl := Option.some.inj hx
  exact (.cons (gSl h1) (.cons (gInt h2) .nil))
 ·cases h
theorem dok_e26 {U : Ty A} {cs : List (D A)} {x : List G_Deed} (h : dec_e26 cs = some x) : OkL U cs (enc_e26 x) := by
 unfold dec_e26 at h
 split at h
 ·simp only [Option.bind_eq_some_iff] at h
  obtain ⟨b1, h1, hx⟩ := h
  obtain rfl := Option.some.inj hx
  exact (.cons (gSl h1) .nil)
 ·cases h
theorem dok_e33 {U : Ty A} {cs : List (D A)} {x : G_Contact} (h : dec_e33 cs = some x) : OkL U cs (enc_e33 x) := by
 unfold dec_e33 at h
 split at h
 ·simp only [Option.bind_eq_some_iff] at h
  obtain ⟨b1, h1, b2, h2, b3, h3, b4, h4, b5, h5, b6, h6, b7, h7, b8, h8, hx⟩ := h
  obtain rfl := Option.some.inj hx
  exact (.cons (gInt h1) (.cons (gInt h2) (.cons (gStr h3) (.cons (gStr h4) (.cons (gInt h5) (.cons (gInt h6) (.cons (gStr h7) (.cons (gStr h8) .nil))))))))
 ·cases h
theorem flt_e33 (x : G_Contact) : (enc_e33 x).all D.plain = true := rfl
theorem dok_e35 {U : Ty A} {cs : List (D A)} {x : G_Deed} (h : dec_e35 cs = some x) : OkL U cs (enc_e35 x) := by
 unfold dec_e35 at h
 split at h
 ·simp only [Option.bind_eq_some_iff] at h
  obtain ⟨b1, h1, b2, h2, b3, h3, b4, h4, b5, h5, b6, h6, b7, h7, b8, h8, b9, h9, b10, h10, b11, h11, b12, h12, b13, h13, b14, h14, b15, h15, hx⟩ := h
  obtain rfl := Option.some.inj hx
  exact (.cons (gStr h1) (.cons (gInt h2) (.cons (gInt h3) (.cons (gInt h4) (.cons (gInt h5) (.cons (gInt h6) (.cons (gStr h7) (.cons (gStr h8) (.cons (gInt h9) (.cons (gInt h10) (.cons (gStr h11) (.cons (gStr h12) (.cons (gStr h13) (.cons (gStr h14) (.cons (gInt h15) .nil)))))))))))))))
 ·cases h
theorem flt_e35 (x : G_Deed) : (enc_e35 x).all D.plain = true := rfl
theorem dok_e37 {U : Ty A} {cs : List (D A)} {x : Int} (h : dec_e37 cs = some x) : OkL U cs (enc_e37 x) := by
 unfold dec_e37 at h
 split at h
 ·simp only [Option.bind_eq_some_iff] at h
  obtain ⟨b1, h1, hx⟩ := h
  obtain rfl := Option.some.inj hx
  exact (.cons (gInt h1) .nil)
 ·cases h
theorem flt_e37 (x : Int) : (enc_e37 x).all D.plain = true := rfl
theorem dok_e102 {U : Ty A} {cs : List (D A)} {x : G_net_own} (h : dec_e102 cs = some x) : OkL U cs (enc_e102 x) := by
 unfold dec_e102 at h
 split at h
 ·simp only [Option.bind_eq_some_iff] at h
  obtain ⟨b1, h1, b2, h2, hx⟩ := h
  obtain rfl := Option.some.inj hx
  exact (.cons (gStr h1) (.cons (gInt h2) .nil))
 ·cases h
theorem flt_e102 (x : G_net_own) : (enc_e102 x).all D.plain = true := rfl
theorem dok_e160 {U : Ty A} {cs : List (D A)} {x : G_Parts} (h : dec_e160 cs = some x) : OkL U cs (enc_e160 x) := by
 unfold dec_e160 at h
 split at h
 ·simp only [Option.bind_eq_some_iff] at h
  obtain ⟨b1, h1, b2, h2, b3, h3, b4, h4, b5, h5, hx⟩ := h
  obtain rfl := Option.some.inj hx
  exact (.cons (gStr h1) (.cons (gStr h2) (.cons (gStr h3) (.cons (gInt h4) (.cons (gStr h5) .nil)))))
 ·cases h
theorem flt_e160 (x : G_Parts) : (enc_e160 x).all D.plain = true := rfl
def TD : Ty A := T.day
theorem decOk {U : Ty A} : ∀ k cs x, decE k cs = some x → OkL U cs (encE k x) := by
 intro k cs x h
 cases k
 case e3 => exact dok_e3 h
 case e4 => exact dok_e4 h
 case e9 => exact dok_e9 h
 case e25 => exact dok_e25 h
 case e26 => exact dok_e26 h
 case e33 => exact dok_e33 h
 case e35 => exact dok_e35 h
 case e37 => exact dok_e37 h
 case e102 => exact dok_e102 h
 case e160 => exact dok_e160 h
 case no => cases h
theorem tyOkD (P : Program) : TyOk P TD := ⟨fun e x => lenE (el e) x, fun e => posE (el e), fun e cs x h => by
 obtain ⟨h1, h2⟩ := decOk (U := TD) (el e) cs x h
 exact ⟨h1.trans (lenE (el e) x), h2⟩⟩
theorem tyOk (P : Program) : TyOk P T := ⟨fun e x => lenE (el e) x, fun e => posE (el e), fun e cs x h => by
 obtain ⟨h1, h2⟩ := decOk (el e) cs x h
 exact ⟨h1.trans (lenE (el e) x), h2⟩⟩
def flatE : El → Bool
 | .e3 => true
 | .e4 => true
 | .e9 => true
 | .e25 => false
 | .e26 => false
 | .e33 => true
 | .e35 => true
 | .e37 => true
 | .e102 => true
 | .e160 => true
 | .no => false
def flatT (e : Nat) : Bool := flatE (el e)
theorem flatEOk : ∀ k, flatE k = true → ∀ x d, d ∈ encE k x → D.plain d = true := by
 intro k h x d hd
 cases k
 case e3 => exact List.all_eq_true.1 (flt_e3 x) d hd
 case e4 => exact List.all_eq_true.1 (flt_e4 x) d hd
 case e9 => exact List.all_eq_true.1 (flt_e9 x) d hd
 case e25 => cases h
 case e26 => cases h
 case e33 => exact List.all_eq_true.1 (flt_e33 x) d hd
 case e35 => exact List.all_eq_true.1 (flt_e35 x) d hd
 case e37 => exact List.all_eq_true.1 (flt_e37 x) d hd
 case e102 => exact List.all_eq_true.1 (flt_e102 x) d hd
 case e160 => exact List.all_eq_true.1 (flt_e160 x) d hd
 case no => cases h
def eq_G_Contact (x y : G_Contact) : Bool := (x.f_At == y.f_At && (x.f_Mode == y.f_Mode && (x.f_Band == y.f_Band && (x.f_Call == y.f_Call && (x.f_Sent == y.f_Sent && (x.f_Heard == y.f_Heard && (x.f_Gave == y.f_Gave && (x.f_Got == y.f_Got && true))))))))
def eq_G_Deed (x y : G_Deed) : Bool := (x.f_Site == y.f_Site && (x.f_No == y.f_No && (x.f_At == y.f_At && (x.f_Kind == y.f_Kind && ((x.f_Contact.f_At == y.f_Contact.f_At && (x.f_Contact.f_Mode == y.f_Contact.f_Mode && (x.f_Contact.f_Band == y.f_Contact.f_Band && (x.f_Contact.f_Call == y.f_Contact.f_Call && (x.f_Contact.f_Sent == y.f_Contact.f_Sent && (x.f_Contact.f_Heard == y.f_Contact.f_Heard && (x.f_Contact.f_Gave == y.f_Contact.f_Gave && (x.f_Contact.f_Got == y.f_Contact.f_Got && true)))))))) && (x.f_Band == y.f_Band && (x.f_Of == y.f_Of && (x.f_Other == y.f_Other && true))))))))
def mget_int_int (x : Int) (m : List (Int × Int)) : Option Int := getM T 3 3 x m
def mdel_int_int (x : Int) (m : List (Int × Int)) : List (Int × Int) := delM T 3 3 x m
def mset_int_int (x : Int) (y : Int) (m : List (Int × Int)) : List (Int × Int) := setM T 3 3 x y m
def keq_int (x y : Int) : Bool := (x == y && true)
theorem mget_int_int_nil (x : Int) : mget_int_int x [] = none := by kernel_rfl
theorem mget_int_int_cons (x : Int) (p : Int × Int) (m : List (Int × Int)) : mget_int_int x (p :: m) = bif keq_int x p.1 then some p.2 else mget_int_int x m := by kernel_rfl
theorem mdel_int_int_nil (x : Int) : mdel_int_int x [] = [] := by kernel_rfl
theorem mdel_int_int_cons (x : Int) (p : Int × Int) (m : List (Int × Int)) : mdel_int_int x (p :: m) = bif keq_int x p.1 then m else p :: mdel_int_int x m := by kernel_rfl
theorem mset_int_int_nil (x : Int) (y : Int) : mset_int_int x y [] = [(x, y)] := by kernel_rfl
theorem mset_int_int_cons (x : Int) (y : Int) (p : Int × Int) (m : List (Int × Int)) : mset_int_int x y (p :: m) = bif keq_int x p.1 then (x, y) :: m else p :: mset_int_int x y m := by kernel_rfl
def mget_string_int (x : List UInt8) (m : List (List UInt8 × Int)) : Option Int := getM T 9 3 x m
def mdel_string_int (x : List UInt8) (m : List (List UInt8 × Int)) : List (List UInt8 × Int) := delM T 9 3 x m
def mset_string_int (x : List UInt8) (y : Int) (m : List (List UInt8 × Int)) : List (List UInt8 × Int) := setM T 9 3 x y m
def keq_string (x y : List UInt8) : Bool := (x == y && true)
theorem mget_string_int_nil (x : List UInt8) : mget_string_int x [] = none := by kernel_rfl
theorem mget_string_int_cons (x : List UInt8) (p : List UInt8 × Int) (m : List (List UInt8 × Int)) : mget_string_int x (p :: m) = bif keq_string x p.1 then some p.2 else mget_string_int x m := by kernel_rfl
theorem mdel_string_int_nil (x : List UInt8) : mdel_string_int x [] = [] := by kernel_rfl
theorem mdel_string_int_cons (x : List UInt8) (p : List UInt8 × Int) (m : List (List UInt8 × Int)) : mdel_string_int x (p :: m) = bif keq_string x p.1 then m else p :: mdel_string_int x m := by kernel_rfl
theorem mset_string_int_nil (x : List UInt8) (y : Int) : mset_string_int x y [] = [(x, y)] := by kernel_rfl
theorem mset_string_int_cons (x : List UInt8) (y : Int) (p : List UInt8 × Int) (m : List (List UInt8 × Int)) : mset_string_int x y (p :: m) = bif keq_string x p.1 then (x, y) :: m else p :: mset_string_int x y m := by kernel_rfl
def mget_Contact_Deed (x : G_Contact) (m : List (G_Contact × G_Deed)) : Option G_Deed := getM T 33 35 x m
def mdel_Contact_Deed (x : G_Contact) (m : List (G_Contact × G_Deed)) : List (G_Contact × G_Deed) := delM T 33 35 x m
def mset_Contact_Deed (x : G_Contact) (y : G_Deed) (m : List (G_Contact × G_Deed)) : List (G_Contact × G_Deed) := setM T 33 35 x y m
def keq_Contact (x y : G_Contact) : Bool := (x.f_At == y.f_At && (x.f_Mode == y.f_Mode && (x.f_Band == y.f_Band && (x.f_Call == y.f_Call && (x.f_Sent == y.f_Sent && (x.f_Heard == y.f_Heard && (x.f_Gave == y.f_Gave && (x.f_Got == y.f_Got && true))))))))
theorem mget_Contact_Deed_nil (x : G_Contact) : mget_Contact_Deed x [] = none := by kernel_rfl
theorem mget_Contact_Deed_cons (x : G_Contact) (p : G_Contact × G_Deed) (m : List (G_Contact × G_Deed)) : mget_Contact_Deed x (p :: m) = bif keq_Contact x p.1 then some p.2 else mget_Contact_Deed x m := by kernel_rfl
theorem mdel_Contact_Deed_nil (x : G_Contact) : mdel_Contact_Deed x [] = [] := by kernel_rfl
theorem mdel_Contact_Deed_cons (x : G_Contact) (p : G_Contact × G_Deed) (m : List (G_Contact × G_Deed)) : mdel_Contact_Deed x (p :: m) = bif keq_Contact x p.1 then m else p :: mdel_Contact_Deed x m := by kernel_rfl
theorem mset_Contact_Deed_nil (x : G_Contact) (y : G_Deed) : mset_Contact_Deed x y [] = [(x, y)] := by kernel_rfl
theorem mset_Contact_Deed_cons (x : G_Contact) (y : G_Deed) (p : G_Contact × G_Deed) (m : List (G_Contact × G_Deed)) : mset_Contact_Deed x y (p :: m) = bif keq_Contact x p.1 then (x, y) :: m else p :: mset_Contact_Deed x y m := by kernel_rfl
def mget_net_own_bool (x : G_net_own) (m : List (G_net_own × Bool)) : Option Bool := getM T 102 4 x m
def mdel_net_own_bool (x : G_net_own) (m : List (G_net_own × Bool)) : List (G_net_own × Bool) := delM T 102 4 x m
def mset_net_own_bool (x : G_net_own) (y : Bool) (m : List (G_net_own × Bool)) : List (G_net_own × Bool) := setM T 102 4 x y m
def keq_net_own (x y : G_net_own) : Bool := (x.f_site == y.f_site && (x.f_no == y.f_no && true))
theorem mget_net_own_bool_nil (x : G_net_own) : mget_net_own_bool x [] = none := by kernel_rfl
theorem mget_net_own_bool_cons (x : G_net_own) (p : G_net_own × Bool) (m : List (G_net_own × Bool)) : mget_net_own_bool x (p :: m) = bif keq_net_own x p.1 then some p.2 else mget_net_own_bool x m := by kernel_rfl
theorem mdel_net_own_bool_nil (x : G_net_own) : mdel_net_own_bool x [] = [] := by kernel_rfl
theorem mdel_net_own_bool_cons (x : G_net_own) (p : G_net_own × Bool) (m : List (G_net_own × Bool)) : mdel_net_own_bool x (p :: m) = bif keq_net_own x p.1 then m else p :: mdel_net_own_bool x m := by kernel_rfl
theorem mset_net_own_bool_nil (x : G_net_own) (y : Bool) : mset_net_own_bool x y [] = [(x, y)] := by kernel_rfl
theorem mset_net_own_bool_cons (x : G_net_own) (y : Bool) (p : G_net_own × Bool) (m : List (G_net_own × Bool)) : mset_net_own_bool x y (p :: m) = bif keq_net_own x p.1 then (x, y) :: m else p :: mset_net_own_bool x y m := by kernel_rfl
def mget_net_own_Deed (x : G_net_own) (m : List (G_net_own × G_Deed)) : Option G_Deed := getM T 102 35 x m
def mdel_net_own_Deed (x : G_net_own) (m : List (G_net_own × G_Deed)) : List (G_net_own × G_Deed) := delM T 102 35 x m
def mset_net_own_Deed (x : G_net_own) (y : G_Deed) (m : List (G_net_own × G_Deed)) : List (G_net_own × G_Deed) := setM T 102 35 x y m
theorem mget_net_own_Deed_nil (x : G_net_own) : mget_net_own_Deed x [] = none := by kernel_rfl
theorem mget_net_own_Deed_cons (x : G_net_own) (p : G_net_own × G_Deed) (m : List (G_net_own × G_Deed)) : mget_net_own_Deed x (p :: m) = bif keq_net_own x p.1 then some p.2 else mget_net_own_Deed x m := by kernel_rfl
theorem mdel_net_own_Deed_nil (x : G_net_own) : mdel_net_own_Deed x [] = [] := by kernel_rfl
theorem mdel_net_own_Deed_cons (x : G_net_own) (p : G_net_own × G_Deed) (m : List (G_net_own × G_Deed)) : mdel_net_own_Deed x (p :: m) = bif keq_net_own x p.1 then m else p :: mdel_net_own_Deed x m := by kernel_rfl
theorem mset_net_own_Deed_nil (x : G_net_own) (y : G_Deed) : mset_net_own_Deed x y [] = [(x, y)] := by kernel_rfl
theorem mset_net_own_Deed_cons (x : G_net_own) (y : G_Deed) (p : G_net_own × G_Deed) (m : List (G_net_own × G_Deed)) : mset_net_own_Deed x y (p :: m) = bif keq_net_own x p.1 then (x, y) :: m else p :: mset_net_own_Deed x y m := by kernel_rfl
theorem ko_3x (x p : Int) : eqT Tryz.prog 64 3 (packAV T 3 x) (packAV T 3 p) = some ((x : Int) == (p : Int)) := by kernel_rfl
theorem ko_3y (x p : Int) : some (eqDs (T.enc 3 x) (T.enc 3 p)) = some ((x == p) && true) := by kernel_rfl
theorem ko_3z (x p : Int) : eqT Tryz.prog 64 3 (packAV T 3 x) (packAV T 3 p) = some (eqDs (T.enc 3 x) (T.enc 3 p)) := (ko_3x x p).trans (((congrArg some (Bool.and_true (x == p))).symm).trans (ko_3y x p).symm)
theorem ko_3 : KeyOk Tryz.prog T 3 := fun x p => ko_3z x p
theorem kd_3 : ∃ kd, Tryz.prog.underlying 3 = some kd := Option.isSome_iff_exists.1 (by kernel_rfl)
theorem ko_9x (x p : List UInt8) : eqT Tryz.prog 64 9 (packAV T 9 x) (packAV T 9 p) = some ((x : List UInt8) == (p : List UInt8)) := by kernel_rfl
theorem ko_9y (x p : List UInt8) : some (eqDs (T.enc 9 x) (T.enc 9 p)) = some ((x == p) && true) := by kernel_rfl
theorem ko_9z (x p : List UInt8) : eqT Tryz.prog 64 9 (packAV T 9 x) (packAV T 9 p) = some (eqDs (T.enc 9 x) (T.enc 9 p)) := (ko_9x x p).trans (((congrArg some (Bool.and_true (x == p))).symm).trans (ko_9y x p).symm)
theorem ko_9 : KeyOk Tryz.prog T 9 := fun x p => ko_9z x p
theorem kd_9 : ∃ kd, Tryz.prog.underlying 9 = some kd := Option.isSome_iff_exists.1 (by kernel_rfl)
theorem ko_33x (x p : G_Contact) : eqT Tryz.prog 64 33 (packAV T 33 x) (packAV T 33 p) = some (eqDs (T.enc 33 x) (T.enc 33 p)) := by kernel_rfl
theorem ko_33 : KeyOk Tryz.prog T 33 := by
 intro x p
 exact ko_33x x p
theorem kd_33 : ∃ kd, Tryz.prog.underlying 33 = some kd := Option.isSome_iff_exists.1 (by kernel_rfl)
theorem ko_102x (x p : G_net_own) : eqT Tryz.prog 64 102 (packAV T 102 x) (packAV T 102 p) = some (eqDs (T.enc 102 x) (T.enc 102 p)) := by kernel_rfl
theorem ko_102 : KeyOk Tryz.prog T 102 := by
 intro x p
 exact ko_102x x p
theorem kd_102 : ∃ kd, Tryz.prog.underlying 102 = some kd := Option.isSome_iff_exists.1 (by kernel_rfl)
def keyT (k : Nat) : Bool := k == 3 || k == 9 || k == 33 || k == 102
theorem keysOk : ∀ k, keyT k = true → KeyOk Tryz.prog T k ∧ ∃ kd, Tryz.prog.underlying k = some kd := by
 intro k h
 simp only [keyT, Bool.or_eq_true, beq_iff_eq] at h
 rcases h with ((rfl | rfl) | rfl) | rfl
 ·exact ⟨ko_3, kd_3⟩
 ·exact ⟨ko_9, kd_9⟩
 ·exact ⟨ko_33, kd_33⟩
 ·exact ⟨ko_102, kd_102⟩
theorem flatOk : FlatOk T flatT := fun e h x d hd => flatEOk (el e) h x d hd
def spT : List (Nat × Sp A) := []
theorem spAll : SpAll Tryz.prog T spT := .nil
theorem std : Std Tryz.prog T keyT flatT (fun f => spT.lookup f) := ⟨tyOk Tryz.prog, flatOk, keysOk, spAll.ok, by kernel_rfl⟩
abbrev Ok (f : Nat) (S : Spec A) : Prop := OkF Tryz.prog T f S
theorem stdD : Std Tryz.prog TD keyT flatT (fun _ => none) := ⟨tyOkD Tryz.prog, fun e h x d hd => flatEOk (el e) h x d hd, keysOk, fun _ _ h => (by cases h), by kernel_rfl⟩
abbrev OkD (f : Nat) (S : Spec A) : Prop := OkF Tryz.prog TD f S
noncomputable def mkE (C : List (Nat × Spec A)) (tg : List (Nat × List Nat)) (lh xh : List (Nat × Hint)) (cl : List (Nat × Piece A)) (sh xs : List (Nat × Hint)) (cs : List (Nat × Piece A)) (md : List (Nat × Nat)) (pin : List Nat) : Env A :=
 { P := Tryz.prog, T := T, C := fun f => C.lookup f, tg := fun d => (tg.lookup d).getD [], seqH := fun i => sh.lookup i, loopH := fun i => lh.lookup i, exitH := fun i => xh.lookup i, exitS := fun i => xs.lookup i, cutS := fun i => cs.lookup i, cutL := fun i => cl.lookup i, mode := fun f i => md.contains (f, i), sp := fun f => spT.lookup f, keyed := keyT, flat := flatT, pin := pin }
noncomputable def mkED (C : List (Nat × Spec A)) (tg : List (Nat × List Nat)) (lh xh : List (Nat × Hint)) (cl : List (Nat × Piece A)) (sh xs : List (Nat × Hint)) (cs : List (Nat × Piece A)) (md : List (Nat × Nat)) (pin : List Nat) : Env A :=
 { P := Tryz.prog, T := TD, C := fun f => C.lookup f, tg := fun d => (tg.lookup d).getD [], seqH := fun i => sh.lookup i, loopH := fun i => lh.lookup i, exitH := fun i => xh.lookup i, exitS := fun i => xs.lookup i, cutS := fun i => cs.lookup i, cutL := fun i => cl.lookup i, mode := fun f i => md.contains (f, i), keyed := keyT, flat := flatT, pin := pin }
end Go.Am
