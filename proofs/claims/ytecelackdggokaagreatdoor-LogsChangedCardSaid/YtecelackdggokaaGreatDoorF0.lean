/- The functions of the program as Lean functions, each shown to be what the code computes, part 0. No condition: lemmas for the claim. -/
import Derived.Test.YtecelackdggokaaGreatDoorAmPrint
import Derived.Test.YtecelackdggokaaGreatDoorProg
import Derived.KernelRfl
set_option linter.unusedVariables false
set_option maxRecDepth 100000
namespace Go.Am
open Go Go.Proofs
structure G_Stream where
  f_L : List Int
  f_at : Int
  deriving DecidableEq
structure G_Contact where
  f_At : Int
  f_Mode : Int
  f_Band : List UInt8
  f_Call : List UInt8
  f_Sent : Int
  f_Heard : Int
  f_Gave : List UInt8
  f_Got : List UInt8
  deriving DecidableEq
structure G_Change where
  f_No : Int
  f_Kind : Int
  f_Was : G_Contact
  f_Is : G_Contact
  deriving DecidableEq
structure G_Parts where
  f_Base : List UInt8
  f_Prefix : List UInt8
  f_Suffix : List UInt8
  f_Kind : Int
  f_Added : List UInt8
  deriving DecidableEq
structure G_log_worked where
  f_base : List UInt8
  f_band : List UInt8
  f_mode : Int
  deriving DecidableEq
inductive El where
  | e3 | e4 | e9 | e25 | e29 | e34 | e36 | e38 | e198 | e245 | no
def el : Nat → El
  | 3 => .e3
  | 4 => .e4
  | 9 => .e9
  | 25 => .e25
  | 29 => .e29
  | 34 => .e34
  | 36 => .e36
  | 38 => .e38
  | 198 => .e198
  | 245 => .e245
  | _ => .no
def AE : El → Type
  | .e3 => Int
  | .e4 => Bool
  | .e9 => List UInt8
  | .e25 => G_Stream
  | .e29 => List G_Change
  | .e34 => G_Contact
  | .e36 => G_Change
  | .e38 => Int
  | .e198 => G_Parts
  | .e245 => G_log_worked
  | .no => Unit
abbrev A (e : Nat) : Type := AE (el e)
def sizeE : El → Nat
  | .e3 => 1
  | .e4 => 1
  | .e9 => 1
  | .e25 => 2
  | .e29 => 1
  | .e34 => 8
  | .e36 => 18
  | .e38 => 1
  | .e198 => 5
  | .e245 => 3
  | .no => 1
def enc_e3 (x : Int) : List (D A) := [.int .i64 x]
def dec_e3 (cs : List (D A)) : Option (Int) := match cs with | [c0] => (dInt .i64 c0).bind fun b1 => some b1 | _ => none
def enc_e4 (x : Bool) : List (D A) := [.bool x]
def dec_e4 (cs : List (D A)) : Option (Bool) := match cs with | [c0] => (dBool c0).bind fun b1 => some b1 | _ => none
def enc_e9 (x : List UInt8) : List (D A) := [.str x]
def dec_e9 (cs : List (D A)) : Option (List UInt8) := match cs with | [c0] => (dStr c0).bind fun b1 => some b1 | _ => none
def enc_e25 (x : G_Stream) : List (D A) := [.sl 3 x.f_L, .int .i64 x.f_at]
def dec_e25 (cs : List (D A)) : Option (G_Stream) := match cs with | [c0, c1] => (dSl 3 c0).bind fun b1 => (dInt .i64 c1).bind fun b2 => some ⟨b1, b2⟩ | _ => none
def enc_e29 (x : List G_Change) : List (D A) := [.sl 36 x]
def dec_e29 (cs : List (D A)) : Option (List G_Change) := match cs with | [c0] => (dSl 36 c0).bind fun b1 => some b1 | _ => none
def enc_e34 (x : G_Contact) : List (D A) := [.int .i64 x.f_At, .int .i64 x.f_Mode, .str x.f_Band, .str x.f_Call, .int .i64 x.f_Sent, .int .i64 x.f_Heard, .str x.f_Gave, .str x.f_Got]
def dec_e34 (cs : List (D A)) : Option (G_Contact) := match cs with | [c0, c1, c2, c3, c4, c5, c6, c7] => (dInt .i64 c0).bind fun b1 => (dInt .i64 c1).bind fun b2 => (dStr c2).bind fun b3 => (dStr c3).bind fun b4 => (dInt .i64 c4).bind fun b5 => (dInt .i64 c5).bind fun b6 => (dStr c6).bind fun b7 => (dStr c7).bind fun b8 => some ⟨b1, b2, b3, b4, b5, b6, b7, b8⟩ | _ => none
def enc_e36 (x : G_Change) : List (D A) := [.int .i64 x.f_No, .int .i64 x.f_Kind, .int .i64 x.f_Was.f_At, .int .i64 x.f_Was.f_Mode, .str x.f_Was.f_Band, .str x.f_Was.f_Call, .int .i64 x.f_Was.f_Sent, .int .i64 x.f_Was.f_Heard, .str x.f_Was.f_Gave, .str x.f_Was.f_Got, .int .i64 x.f_Is.f_At, .int .i64 x.f_Is.f_Mode, .str x.f_Is.f_Band, .str x.f_Is.f_Call, .int .i64 x.f_Is.f_Sent, .int .i64 x.f_Is.f_Heard, .str x.f_Is.f_Gave, .str x.f_Is.f_Got]
def dec_e36 (cs : List (D A)) : Option (G_Change) := match cs with | [c0, c1, c2, c3, c4, c5, c6, c7, c8, c9, c10, c11, c12, c13, c14, c15, c16, c17] => (dInt .i64 c0).bind fun b1 => (dInt .i64 c1).bind fun b2 => (dInt .i64 c2).bind fun b3 => (dInt .i64 c3).bind fun b4 => (dStr c4).bind fun b5 => (dStr c5).bind fun b6 => (dInt .i64 c6).bind fun b7 => (dInt .i64 c7).bind fun b8 => (dStr c8).bind fun b9 => (dStr c9).bind fun b10 => (dInt .i64 c10).bind fun b11 => (dInt .i64 c11).bind fun b12 => (dStr c12).bind fun b13 => (dStr c13).bind fun b14 => (dInt .i64 c14).bind fun b15 => (dInt .i64 c15).bind fun b16 => (dStr c16).bind fun b17 => (dStr c17).bind fun b18 => some ⟨b1, b2, ⟨b3, b4, b5, b6, b7, b8, b9, b10⟩, ⟨b11, b12, b13, b14, b15, b16, b17, b18⟩⟩ | _ => none
def enc_e38 (x : Int) : List (D A) := [.int .i64 x]
def dec_e38 (cs : List (D A)) : Option (Int) := match cs with | [c0] => (dInt .i64 c0).bind fun b1 => some b1 | _ => none
def enc_e198 (x : G_Parts) : List (D A) := [.str x.f_Base, .str x.f_Prefix, .str x.f_Suffix, .int .i64 x.f_Kind, .str x.f_Added]
def dec_e198 (cs : List (D A)) : Option (G_Parts) := match cs with | [c0, c1, c2, c3, c4] => (dStr c0).bind fun b1 => (dStr c1).bind fun b2 => (dStr c2).bind fun b3 => (dInt .i64 c3).bind fun b4 => (dStr c4).bind fun b5 => some ⟨b1, b2, b3, b4, b5⟩ | _ => none
def enc_e245 (x : G_log_worked) : List (D A) := [.str x.f_base, .str x.f_band, .int .i64 x.f_mode]
def dec_e245 (cs : List (D A)) : Option (G_log_worked) := match cs with | [c0, c1, c2] => (dStr c0).bind fun b1 => (dStr c1).bind fun b2 => (dInt .i64 c2).bind fun b3 => some ⟨b1, b2, b3⟩ | _ => none
def encE : (k : El) → AE k → List (D A)
  | .e3, x => enc_e3 x
  | .e4, x => enc_e4 x
  | .e9, x => enc_e9 x
  | .e25, x => enc_e25 x
  | .e29, x => enc_e29 x
  | .e34, x => enc_e34 x
  | .e36, x => enc_e36 x
  | .e38, x => enc_e38 x
  | .e198, x => enc_e198 x
  | .e245, x => enc_e245 x
  | .no, _ => [.nilif]
def decE : (k : El) → List (D A) → Option (AE k)
  | .e3, cs => dec_e3 cs
  | .e4, cs => dec_e4 cs
  | .e9, cs => dec_e9 cs
  | .e25, cs => dec_e25 cs
  | .e29, cs => dec_e29 cs
  | .e34, cs => dec_e34 cs
  | .e36, cs => dec_e36 cs
  | .e38, cs => dec_e38 cs
  | .e198, cs => dec_e198 cs
  | .e245, cs => dec_e245 cs
  | .no, _ => none
def aggE : El → Bool
  | .e3 => false
  | .e4 => false
  | .e9 => false
  | .e25 => true
  | .e29 => false
  | .e34 => true
  | .e36 => true
  | .e38 => false
  | .e198 => true
  | .e245 => true
  | .no => false
def T : Ty A where
  size := fun e => sizeE (el e)
  enc := fun e x => encE (el e) x
  dec := fun e cs => decE (el e) cs
  agg := fun e => aggE (el e)
theorem lenE : ∀ k x, (encE k x).length = sizeE k := by intro k x; cases k <;> rfl
theorem posE : ∀ k, 0 < sizeE k := by intro k; cases k <;> decide
theorem dok_e3 {U : Ty A} {cs : List (D A)} {x : Int} (h : dec_e3 cs = some x) : OkL U cs (enc_e3 x) := by
  unfold dec_e3 at h
  split at h
  · simp only [Option.bind_eq_some_iff] at h
    obtain ⟨b1, h1, hx⟩ := h
    obtain rfl := Option.some.inj hx
    exact (.cons (gInt h1) .nil)
  · cases h
theorem flt_e3 (x : Int) : (enc_e3 x).all D.plain = true := rfl
theorem dok_e4 {U : Ty A} {cs : List (D A)} {x : Bool} (h : dec_e4 cs = some x) : OkL U cs (enc_e4 x) := by
  unfold dec_e4 at h
  split at h
  · simp only [Option.bind_eq_some_iff] at h
    obtain ⟨b1, h1, hx⟩ := h
    obtain rfl := Option.some.inj hx
    exact (.cons (gBool h1) .nil)
  · cases h
theorem flt_e4 (x : Bool) : (enc_e4 x).all D.plain = true := rfl
theorem dok_e9 {U : Ty A} {cs : List (D A)} {x : List UInt8} (h : dec_e9 cs = some x) : OkL U cs (enc_e9 x) := by
  unfold dec_e9 at h
  split at h
  · simp only [Option.bind_eq_some_iff] at h
    obtain ⟨b1, h1, hx⟩ := h
    obtain rfl := Option.some.inj hx
    exact (.cons (gStr h1) .nil)
  · cases h
theorem flt_e9 (x : List UInt8) : (enc_e9 x).all D.plain = true := rfl
theorem dok_e25 {U : Ty A} {cs : List (D A)} {x : G_Stream} (h : dec_e25 cs = some x) : OkL U cs (enc_e25 x) := by
  unfold dec_e25 at h
  split at h
  · simp only [Option.bind_eq_some_iff] at h
    obtain ⟨b1, h1, b2, h2, hx⟩ := h
    obtain rfl := Option.some.inj hx
    exact (.cons (gSl h1) (.cons (gInt h2) .nil))
  · cases h
theorem dok_e29 {U : Ty A} {cs : List (D A)} {x : List G_Change} (h : dec_e29 cs = some x) : OkL U cs (enc_e29 x) := by
  unfold dec_e29 at h
  split at h
  · simp only [Option.bind_eq_some_iff] at h
    obtain ⟨b1, h1, hx⟩ := h
    obtain rfl := Option.some.inj hx
    exact (.cons (gSl h1) .nil)
  · cases h
theorem dok_e34 {U : Ty A} {cs : List (D A)} {x : G_Contact} (h : dec_e34 cs = some x) : OkL U cs (enc_e34 x) := by
  unfold dec_e34 at h
  split at h
  · simp only [Option.bind_eq_some_iff] at h
    obtain ⟨b1, h1, b2, h2, b3, h3, b4, h4, b5, h5, b6, h6, b7, h7, b8, h8, hx⟩ := h
    obtain rfl := Option.some.inj hx
    exact (.cons (gInt h1) (.cons (gInt h2) (.cons (gStr h3) (.cons (gStr h4) (.cons (gInt h5) (.cons (gInt h6) (.cons (gStr h7) (.cons (gStr h8) .nil))))))))
  · cases h
theorem flt_e34 (x : G_Contact) : (enc_e34 x).all D.plain = true := rfl
theorem dok_e36 {U : Ty A} {cs : List (D A)} {x : G_Change} (h : dec_e36 cs = some x) : OkL U cs (enc_e36 x) := by
  unfold dec_e36 at h
  split at h
  · simp only [Option.bind_eq_some_iff] at h
    obtain ⟨b1, h1, b2, h2, b3, h3, b4, h4, b5, h5, b6, h6, b7, h7, b8, h8, b9, h9, b10, h10, b11, h11, b12, h12, b13, h13, b14, h14, b15, h15, b16, h16, b17, h17, b18, h18, hx⟩ := h
    obtain rfl := Option.some.inj hx
    exact (.cons (gInt h1) (.cons (gInt h2) (.cons (gInt h3) (.cons (gInt h4) (.cons (gStr h5) (.cons (gStr h6) (.cons (gInt h7) (.cons (gInt h8) (.cons (gStr h9) (.cons (gStr h10) (.cons (gInt h11) (.cons (gInt h12) (.cons (gStr h13) (.cons (gStr h14) (.cons (gInt h15) (.cons (gInt h16) (.cons (gStr h17) (.cons (gStr h18) .nil))))))))))))))))))
  · cases h
theorem flt_e36 (x : G_Change) : (enc_e36 x).all D.plain = true := rfl
theorem dok_e38 {U : Ty A} {cs : List (D A)} {x : Int} (h : dec_e38 cs = some x) : OkL U cs (enc_e38 x) := by
  unfold dec_e38 at h
  split at h
  · simp only [Option.bind_eq_some_iff] at h
    obtain ⟨b1, h1, hx⟩ := h
    obtain rfl := Option.some.inj hx
    exact (.cons (gInt h1) .nil)
  · cases h
theorem flt_e38 (x : Int) : (enc_e38 x).all D.plain = true := rfl
theorem dok_e198 {U : Ty A} {cs : List (D A)} {x : G_Parts} (h : dec_e198 cs = some x) : OkL U cs (enc_e198 x) := by
  unfold dec_e198 at h
  split at h
  · simp only [Option.bind_eq_some_iff] at h
    obtain ⟨b1, h1, b2, h2, b3, h3, b4, h4, b5, h5, hx⟩ := h
    obtain rfl := Option.some.inj hx
    exact (.cons (gStr h1) (.cons (gStr h2) (.cons (gStr h3) (.cons (gInt h4) (.cons (gStr h5) .nil)))))
  · cases h
theorem flt_e198 (x : G_Parts) : (enc_e198 x).all D.plain = true := rfl
theorem dok_e245 {U : Ty A} {cs : List (D A)} {x : G_log_worked} (h : dec_e245 cs = some x) : OkL U cs (enc_e245 x) := by
  unfold dec_e245 at h
  split at h
  · simp only [Option.bind_eq_some_iff] at h
    obtain ⟨b1, h1, b2, h2, b3, h3, hx⟩ := h
    obtain rfl := Option.some.inj hx
    exact (.cons (gStr h1) (.cons (gStr h2) (.cons (gInt h3) .nil)))
  · cases h
theorem flt_e245 (x : G_log_worked) : (enc_e245 x).all D.plain = true := rfl
def TD : Ty A := { T with dr := true }
theorem decOk {U : Ty A} : ∀ k cs x, decE k cs = some x → OkL U cs (encE k x) := by
  intro k cs x h
  cases k
  case e3 => exact dok_e3 h
  case e4 => exact dok_e4 h
  case e9 => exact dok_e9 h
  case e25 => exact dok_e25 h
  case e29 => exact dok_e29 h
  case e34 => exact dok_e34 h
  case e36 => exact dok_e36 h
  case e38 => exact dok_e38 h
  case e198 => exact dok_e198 h
  case e245 => exact dok_e245 h
  case no => cases h
theorem tyOkD (P : Program) : TyOk P TD := ⟨fun e x => lenE (el e) x, fun e => posE (el e), fun e cs x h => by
  obtain ⟨h1, h2⟩ := decOk (U := TD) (el e) cs x h
  exact ⟨h1.trans (lenE (el e) x), h2⟩⟩
theorem tyOk (P : Program) : TyOk P T := ⟨fun e x => lenE (el e) x, fun e => posE (el e), fun e cs x h => by
  obtain ⟨h1, h2⟩ := decOk (el e) cs x h
  exact ⟨h1.trans (lenE (el e) x), h2⟩⟩
def flatE : El → Bool
  | .e3 => true
  | .e4 => true
  | .e9 => true
  | .e25 => false
  | .e29 => false
  | .e34 => true
  | .e36 => true
  | .e38 => true
  | .e198 => true
  | .e245 => true
  | .no => false
def flatT (e : Nat) : Bool := flatE (el e)
theorem flatEOk : ∀ k, flatE k = true → ∀ x d, d ∈ encE k x → D.plain d = true := by
  intro k h x d hd
  cases k
  case e3 => exact List.all_eq_true.1 (flt_e3 x) d hd
  case e4 => exact List.all_eq_true.1 (flt_e4 x) d hd
  case e9 => exact List.all_eq_true.1 (flt_e9 x) d hd
  case e25 => cases h
  case e29 => cases h
  case e34 => exact List.all_eq_true.1 (flt_e34 x) d hd
  case e36 => exact List.all_eq_true.1 (flt_e36 x) d hd
  case e38 => exact List.all_eq_true.1 (flt_e38 x) d hd
  case e198 => exact List.all_eq_true.1 (flt_e198 x) d hd
  case e245 => exact List.all_eq_true.1 (flt_e245 x) d hd
  case no => cases h
def eq_G_Contact (x y : G_Contact) : Bool := (x.f_At == y.f_At && (x.f_Mode == y.f_Mode && (x.f_Band == y.f_Band && (x.f_Call == y.f_Call && (x.f_Sent == y.f_Sent && (x.f_Heard == y.f_Heard && (x.f_Gave == y.f_Gave && (x.f_Got == y.f_Got && true))))))))
def eq_G_Change (x y : G_Change) : Bool := (x.f_No == y.f_No && (x.f_Kind == y.f_Kind && ((x.f_Was.f_At == y.f_Was.f_At && (x.f_Was.f_Mode == y.f_Was.f_Mode && (x.f_Was.f_Band == y.f_Was.f_Band && (x.f_Was.f_Call == y.f_Was.f_Call && (x.f_Was.f_Sent == y.f_Was.f_Sent && (x.f_Was.f_Heard == y.f_Was.f_Heard && (x.f_Was.f_Gave == y.f_Was.f_Gave && (x.f_Was.f_Got == y.f_Was.f_Got && true)))))))) && ((x.f_Is.f_At == y.f_Is.f_At && (x.f_Is.f_Mode == y.f_Is.f_Mode && (x.f_Is.f_Band == y.f_Is.f_Band && (x.f_Is.f_Call == y.f_Is.f_Call && (x.f_Is.f_Sent == y.f_Is.f_Sent && (x.f_Is.f_Heard == y.f_Is.f_Heard && (x.f_Is.f_Gave == y.f_Is.f_Gave && (x.f_Is.f_Got == y.f_Is.f_Got && true)))))))) && true))))
def mget_Contact_Contact (x : G_Contact) (m : List (G_Contact × G_Contact)) : Option G_Contact := getM T 34 34 x m
def mdel_Contact_Contact (x : G_Contact) (m : List (G_Contact × G_Contact)) : List (G_Contact × G_Contact) := delM T 34 34 x m
def mset_Contact_Contact (x : G_Contact) (y : G_Contact) (m : List (G_Contact × G_Contact)) : List (G_Contact × G_Contact) := setM T 34 34 x y m
def keq_Contact (x y : G_Contact) : Bool := (x.f_At == y.f_At && (x.f_Mode == y.f_Mode && (x.f_Band == y.f_Band && (x.f_Call == y.f_Call && (x.f_Sent == y.f_Sent && (x.f_Heard == y.f_Heard && (x.f_Gave == y.f_Gave && (x.f_Got == y.f_Got && true))))))))
theorem mget_Contact_Contact_nil (x : G_Contact) : mget_Contact_Contact x [] = none := by kernel_rfl
theorem mget_Contact_Contact_cons (x : G_Contact) (p : G_Contact × G_Contact) (m : List (G_Contact × G_Contact)) : mget_Contact_Contact x (p :: m) = bif keq_Contact x p.1 then some p.2 else mget_Contact_Contact x m := by kernel_rfl
theorem mdel_Contact_Contact_nil (x : G_Contact) : mdel_Contact_Contact x [] = [] := by kernel_rfl
theorem mdel_Contact_Contact_cons (x : G_Contact) (p : G_Contact × G_Contact) (m : List (G_Contact × G_Contact)) : mdel_Contact_Contact x (p :: m) = bif keq_Contact x p.1 then m else p :: mdel_Contact_Contact x m := by kernel_rfl
theorem mset_Contact_Contact_nil (x : G_Contact) (y : G_Contact) : mset_Contact_Contact x y [] = [(x, y)] := by kernel_rfl
theorem mset_Contact_Contact_cons (x : G_Contact) (y : G_Contact) (p : G_Contact × G_Contact) (m : List (G_Contact × G_Contact)) : mset_Contact_Contact x y (p :: m) = bif keq_Contact x p.1 then (x, y) :: m else p :: mset_Contact_Contact x y m := by kernel_rfl
def mget_log_worked_bool (x : G_log_worked) (m : List (G_log_worked × Bool)) : Option Bool := getM T 245 4 x m
def mdel_log_worked_bool (x : G_log_worked) (m : List (G_log_worked × Bool)) : List (G_log_worked × Bool) := delM T 245 4 x m
def mset_log_worked_bool (x : G_log_worked) (y : Bool) (m : List (G_log_worked × Bool)) : List (G_log_worked × Bool) := setM T 245 4 x y m
def keq_log_worked (x y : G_log_worked) : Bool := (x.f_base == y.f_base && (x.f_band == y.f_band && (x.f_mode == y.f_mode && true)))
theorem mget_log_worked_bool_nil (x : G_log_worked) : mget_log_worked_bool x [] = none := by kernel_rfl
theorem mget_log_worked_bool_cons (x : G_log_worked) (p : G_log_worked × Bool) (m : List (G_log_worked × Bool)) : mget_log_worked_bool x (p :: m) = bif keq_log_worked x p.1 then some p.2 else mget_log_worked_bool x m := by kernel_rfl
theorem mdel_log_worked_bool_nil (x : G_log_worked) : mdel_log_worked_bool x [] = [] := by kernel_rfl
theorem mdel_log_worked_bool_cons (x : G_log_worked) (p : G_log_worked × Bool) (m : List (G_log_worked × Bool)) : mdel_log_worked_bool x (p :: m) = bif keq_log_worked x p.1 then m else p :: mdel_log_worked_bool x m := by kernel_rfl
theorem mset_log_worked_bool_nil (x : G_log_worked) (y : Bool) : mset_log_worked_bool x y [] = [(x, y)] := by kernel_rfl
theorem mset_log_worked_bool_cons (x : G_log_worked) (y : Bool) (p : G_log_worked × Bool) (m : List (G_log_worked × Bool)) : mset_log_worked_bool x y (p :: m) = bif keq_log_worked x p.1 then (x, y) :: m else p :: mset_log_worked_bool x y m := by kernel_rfl
theorem ko_34x (x p : G_Contact) : eqT Tryz.prog 64 34 (packAV T 34 x) (packAV T 34 p) = some (eqDs (T.enc 34 x) (T.enc 34 p)) := by kernel_rfl
theorem ko_34 : KeyOk Tryz.prog T 34 := by
  intro x p
  exact ko_34x x p
theorem kd_34 : ∃ kd, Tryz.prog.underlying 34 = some kd := Option.isSome_iff_exists.1 (by kernel_rfl)
theorem ko_245x (x p : G_log_worked) : eqT Tryz.prog 64 245 (packAV T 245 x) (packAV T 245 p) = some (eqDs (T.enc 245 x) (T.enc 245 p)) := by kernel_rfl
theorem ko_245 : KeyOk Tryz.prog T 245 := by
  intro x p
  exact ko_245x x p
theorem kd_245 : ∃ kd, Tryz.prog.underlying 245 = some kd := Option.isSome_iff_exists.1 (by kernel_rfl)
def keyT (k : Nat) : Bool := k == 34 || k == 245
theorem keysOk : ∀ k, keyT k = true → KeyOk Tryz.prog T k ∧ ∃ kd, Tryz.prog.underlying k = some kd := by
  intro k h
  simp only [keyT, Bool.or_eq_true, beq_iff_eq] at h
  rcases h with rfl | rfl
  · exact ⟨ko_34, kd_34⟩
  · exact ⟨ko_245, kd_245⟩
theorem flatOk : FlatOk T flatT := fun e h x d hd => flatEOk (el e) h x d hd
theorem std : Std Tryz.prog T keyT flatT := ⟨tyOk Tryz.prog, flatOk, keysOk, by kernel_rfl⟩
abbrev Ok (f : Nat) (S : Spec A) : Prop := OkF Tryz.prog T f S
theorem stdD : Std Tryz.prog TD keyT flatT := ⟨tyOkD Tryz.prog, fun e h x d hd => flatEOk (el e) h x d hd, keysOk, by kernel_rfl⟩
abbrev OkD (f : Nat) (S : Spec A) : Prop := OkF Tryz.prog TD f S
noncomputable def mkE (C : List (Nat × Spec A)) (tg : List (Nat × List Nat)) (lh xh : List (Nat × Hint)) (cl : List (Nat × Piece A)) (sh xs : List (Nat × Hint)) (cs : List (Nat × Piece A)) (md : List (Nat × Nat)) (pin : List Nat) : Env A :=
  { P := Tryz.prog, T := T, C := fun f => C.lookup f, tg := fun d => (tg.lookup d).getD [], seqH := fun i => sh.lookup i, loopH := fun i => lh.lookup i, exitH := fun i => xh.lookup i, exitS := fun i => xs.lookup i, cutS := fun i => cs.lookup i, cutL := fun i => cl.lookup i, mode := fun f i => md.contains (f, i), keyed := keyT, flat := flatT, pin := pin }
noncomputable def mkED (C : List (Nat × Spec A)) (tg : List (Nat × List Nat)) (lh xh : List (Nat × Hint)) (cl : List (Nat × Piece A)) (sh xs : List (Nat × Hint)) (cs : List (Nat × Piece A)) (md : List (Nat × Nat)) (pin : List Nat) : Env A :=
  { P := Tryz.prog, T := TD, C := fun f => C.lookup f, tg := fun d => (tg.lookup d).getD [], seqH := fun i => sh.lookup i, loopH := fun i => lh.lookup i, exitH := fun i => xh.lookup i, exitS := fun i => xs.lookup i, cutS := fun i => cs.lookup i, cutL := fun i => cl.lookup i, mode := fun f i => md.contains (f, i), keyed := keyT, flat := flatT, pin := pin }
end Go.Am
