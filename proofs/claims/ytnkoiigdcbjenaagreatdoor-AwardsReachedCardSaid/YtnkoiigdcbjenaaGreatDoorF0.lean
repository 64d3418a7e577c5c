/- The functions of the program as Lean functions, each shown to be what the code computes, part 0. No condition: lemmas for the claim. -/
import Derived.Test.YtnkoiigdcbjenaaGreatDoorAmPrint
import Derived.Test.YtnkoiigdcbjenaaGreatDoorProg
import Derived.KernelRfl
set_option linter.unusedVariables false
set_option maxRecDepth 100000
namespace Go.Am
open Go Go.Proofs
structure G_Stream where
  f_L : List Int
  f_at : Int
  deriving DecidableEq
structure G_Award where
  f_Key : List UInt8
  f_Band : List UInt8
  f_Count : Int
  f_Need : Int
  deriving DecidableEq
structure G_Pair where
  f_Name : List UInt8
  f_Value : List UInt8
  deriving DecidableEq
structure G_Card where
  f_At : Int
  f_Kind : Int
  f_Mode : Int
  f_Call : List UInt8
  f_Band : List UInt8
  deriving DecidableEq
structure G_Entrant where
  f_Call : List UInt8
  f_Category : List UInt8
  f_Points : Int
  f_Locator : List UInt8
  deriving DecidableEq
structure G_Place where
  f_Rank : Int
  f_Points : Int
  f_Key : List UInt8
  deriving DecidableEq
structure G_club_contact where
  f_base : List UInt8
  f_band : List UInt8
  f_mode : Int
  deriving DecidableEq
structure G_Parts where
  f_Base : List UInt8
  f_Prefix : List UInt8
  f_Suffix : List UInt8
  f_Kind : Int
  f_Added : List UInt8
  deriving DecidableEq
inductive El where
  | e3 | e4 | e9 | e25 | e33 | e36 | e50 | e82 | e100 | e103 | e141 | e146 | no
def el : Nat → El
  | 3 => .e3
  | 4 => .e4
  | 9 => .e9
  | 25 => .e25
  | 33 => .e33
  | 36 => .e36
  | 50 => .e50
  | 82 => .e82
  | 100 => .e100
  | 103 => .e103
  | 141 => .e141
  | 146 => .e146
  | _ => .no
def AE : El → Type
  | .e3 => Int
  | .e4 => Bool
  | .e9 => List UInt8
  | .e25 => G_Stream
  | .e33 => G_Award
  | .e36 => Int
  | .e50 => G_Pair
  | .e82 => G_Card
  | .e100 => G_Entrant
  | .e103 => G_Place
  | .e141 => G_club_contact
  | .e146 => G_Parts
  | .no => Unit
abbrev A (e : Nat) : Type := AE (el e)
def sizeE : El → Nat
  | .e3 => 1
  | .e4 => 1
  | .e9 => 1
  | .e25 => 2
  | .e33 => 4
  | .e36 => 1
  | .e50 => 2
  | .e82 => 5
  | .e100 => 4
  | .e103 => 3
  | .e141 => 3
  | .e146 => 5
  | .no => 1
def enc_e3 (x : Int) : List (D A) := [.int .i64 x]
def dec_e3 (cs : List (D A)) : Option (Int) := match cs with | [c0] => (dInt .i64 c0).bind fun b1 => some b1 | _ => none
def enc_e4 (x : Bool) : List (D A) := [.bool x]
def dec_e4 (cs : List (D A)) : Option (Bool) := match cs with | [c0] => (dBool c0).bind fun b1 => some b1 | _ => none
def enc_e9 (x : List UInt8) : List (D A) := [.str x]
def dec_e9 (cs : List (D A)) : Option (List UInt8) := match cs with | [c0] => (dStr c0).bind fun b1 => some b1 | _ => none
def enc_e25 (x : G_Stream) : List (D A) := [.sl 3 x.f_L, .int .i64 x.f_at]
def dec_e25 (cs : List (D A)) : Option (G_Stream) := match cs with | [c0, c1] => (dSl 3 c0).bind fun b1 => (dInt .i64 c1).bind fun b2 => some ⟨b1, b2⟩ | _ => none
def enc_e33 (x : G_Award) : List (D A) := [.str x.f_Key, .str x.f_Band, .int .i64 x.f_Count, .int .i64 x.f_Need]
def dec_e33 (cs : List (D A)) : Option (G_Award) := match cs with | [c0, c1, c2, c3] => (dStr c0).bind fun b1 => (dStr c1).bind fun b2 => (dInt .i64 c2).bind fun b3 => (dInt .i64 c3).bind fun b4 => some ⟨b1, b2, b3, b4⟩ | _ => none
def enc_e36 (x : Int) : List (D A) := [.int .i64 x]
def dec_e36 (cs : List (D A)) : Option (Int) := match cs with | [c0] => (dInt .i64 c0).bind fun b1 => some b1 | _ => none
def enc_e50 (x : G_Pair) : List (D A) := [.str x.f_Name, .str x.f_Value]
def dec_e50 (cs : List (D A)) : Option (G_Pair) := match cs with | [c0, c1] => (dStr c0).bind fun b1 => (dStr c1).bind fun b2 => some ⟨b1, b2⟩ | _ => none
def enc_e82 (x : G_Card) : List (D A) := [.int .i64 x.f_At, .int .i64 x.f_Kind, .int .i64 x.f_Mode, .str x.f_Call, .str x.f_Band]
def dec_e82 (cs : List (D A)) : Option (G_Card) := match cs with | [c0, c1, c2, c3, c4] => (dInt .i64 c0).bind fun b1 => (dInt .i64 c1).bind fun b2 => (dInt .i64 c2).bind fun b3 => (dStr c3).bind fun b4 => (dStr c4).bind fun b5 => some ⟨b1, b2, b3, b4, b5⟩ | _ => none
def enc_e100 (x : G_Entrant) : List (D A) := [.str x.f_Call, .str x.f_Category, .int .i64 x.f_Points, .str x.f_Locator]
def dec_e100 (cs : List (D A)) : Option (G_Entrant) := match cs with | [c0, c1, c2, c3] => (dStr c0).bind fun b1 => (dStr c1).bind fun b2 => (dInt .i64 c2).bind fun b3 => (dStr c3).bind fun b4 => some ⟨b1, b2, b3, b4⟩ | _ => none
def enc_e103 (x : G_Place) : List (D A) := [.int .i64 x.f_Rank, .int .i64 x.f_Points, .str x.f_Key]
def dec_e103 (cs : List (D A)) : Option (G_Place) := match cs with | [c0, c1, c2] => (dInt .i64 c0).bind fun b1 => (dInt .i64 c1).bind fun b2 => (dStr c2).bind fun b3 => some ⟨b1, b2, b3⟩ | _ => none
def enc_e141 (x : G_club_contact) : List (D A) := [.str x.f_base, .str x.f_band, .int .i64 x.f_mode]
def dec_e141 (cs : List (D A)) : Option (G_club_contact) := match cs with | [c0, c1, c2] => (dStr c0).bind fun b1 => (dStr c1).bind fun b2 => (dInt .i64 c2).bind fun b3 => some ⟨b1, b2, b3⟩ | _ => none
def enc_e146 (x : G_Parts) : List (D A) := [.str x.f_Base, .str x.f_Prefix, .str x.f_Suffix, .int .i64 x.f_Kind, .str x.f_Added]
def dec_e146 (cs : List (D A)) : Option (G_Parts) := match cs with | [c0, c1, c2, c3, c4] => (dStr c0).bind fun b1 => (dStr c1).bind fun b2 => (dStr c2).bind fun b3 => (dInt .i64 c3).bind fun b4 => (dStr c4).bind fun b5 => some ⟨b1, b2, b3, b4, b5⟩ | _ => none
def encE : (k : El) → AE k → List (D A)
  | .e3, x => enc_e3 x
  | .e4, x => enc_e4 x
  | .e9, x => enc_e9 x
  | .e25, x => enc_e25 x
  | .e33, x => enc_e33 x
  | .e36, x => enc_e36 x
  | .e50, x => enc_e50 x
  | .e82, x => enc_e82 x
  | .e100, x => enc_e100 x
  | .e103, x => enc_e103 x
  | .e141, x => enc_e141 x
  | .e146, x => enc_e146 x
  | .no, _ => [.nilif]
def decE : (k : El) → List (D A) → Option (AE k)
  | .e3, cs => dec_e3 cs
  | .e4, cs => dec_e4 cs
  | .e9, cs => dec_e9 cs
  | .e25, cs => dec_e25 cs
  | .e33, cs => dec_e33 cs
  | .e36, cs => dec_e36 cs
  | .e50, cs => dec_e50 cs
  | .e82, cs => dec_e82 cs
  | .e100, cs => dec_e100 cs
  | .e103, cs => dec_e103 cs
  | .e141, cs => dec_e141 cs
  | .e146, cs => dec_e146 cs
  | .no, _ => none
def aggE : El → Bool
  | .e3 => false
  | .e4 => false
  | .e9 => false
  | .e25 => true
  | .e33 => true
  | .e36 => false
  | .e50 => true
  | .e82 => true
  | .e100 => true
  | .e103 => true
  | .e141 => true
  | .e146 => true
  | .no => false
theorem tabg : Tryz.prog.globalNamed "internal/strconv.uint64pow10" = some 1 := by kernel_rfl
def T : Ty A where
  size := fun e => sizeE (el e)
  enc := fun e x => encE (el e) x
  dec := fun e cs => decE (el e) cs
  agg := fun e => aggE (el e)
  fix := [1]
  amb := fun w => Lib.TabIs Tryz.prog w "internal/strconv.uint64pow10" .u64 Lib.pow10Tab
  ambOk := tab_amb tabg
theorem lenE : ∀ k x, (encE k x).length = sizeE k := by intro k x; cases k <;> rfl
theorem posE : ∀ k, 0 < sizeE k := by intro k; cases k <;> decide
theorem dok_e3 {U : Ty A} {cs : List (D A)} {x : Int} (h : dec_e3 cs = some x) : OkL U cs (enc_e3 x) := by
  unfold dec_e3 at h
  split at h
  · simp only [Option.bind_eq_some_iff] at h
    obtain ⟨b1, h1, hx⟩ := h
    obtain rfl := Option.some.inj hx
    exact (.cons (gInt h1) .nil)
  · cases h
theorem flt_e3 (x : Int) : (enc_e3 x).all D.plain = true := rfl
theorem dok_e4 {U : Ty A} {cs : List (D A)} {x : Bool} (h : dec_e4 cs = some x) : OkL U cs (enc_e4 x) := by
  unfold dec_e4 at h
  split at h
  · simp only [Option.bind_eq_some_iff] at h
    obtain ⟨b1, h1, hx⟩ := h
    obtain rfl := Option.some.inj hx
    exact (.cons (gBool h1) .nil)
  · cases h
theorem flt_e4 (x : Bool) : (enc_e4 x).all D.plain = true := rfl
theorem dok_e9 {U : Ty A} {cs : List (D A)} {x : List UInt8} (h : dec_e9 cs = some x) : OkL U cs (enc_e9 x) := by
  unfold dec_e9 at h
  split at h
  · simp only [Option.bind_eq_some_iff] at h
    obtain ⟨b1, h1, hx⟩ := h
    obtain rfl := Option.some.inj hx
    exact (.cons (gStr h1) .nil)
  · cases h
theorem flt_e9 (x : List UInt8) : (enc_e9 x).all D.plain = true := rfl
theorem dok_e25 {U : Ty A} {cs : List (D A)} {x : G_Stream} (h : dec_e25 cs = some x) : OkL U cs (enc_e25 x) := by
  unfold dec_e25 at h
  split at h
  · simp only [Option.bind_eq_some_iff] at h
    obtain ⟨b1, h1, b2, h2, hx⟩ := h
    obtain rfl := Option.some.inj hx
    exact (.cons (gSl h1) (.cons (gInt h2) .nil))
  · cases h
theorem dok_e33 {U : Ty A} {cs : List (D A)} {x : G_Award} (h : dec_e33 cs = some x) : OkL U cs (enc_e33 x) := by
  unfold dec_e33 at h
  split at h
  · simp only [Option.bind_eq_some_iff] at h
    obtain ⟨b1, h1, b2, h2, b3, h3, b4, h4, hx⟩ := h
    obtain rfl := Option.some.inj hx
    exact (.cons (gStr h1) (.cons (gStr h2) (.cons (gInt h3) (.cons (gInt h4) .nil))))
  · cases h
theorem flt_e33 (x : G_Award) : (enc_e33 x).all D.plain = true := rfl
theorem dok_e36 {U : Ty A} {cs : List (D A)} {x : Int} (h : dec_e36 cs = some x) : OkL U cs (enc_e36 x) := by
  unfold dec_e36 at h
  split at h
  · simp only [Option.bind_eq_some_iff] at h
    obtain ⟨b1, h1, hx⟩ := h
    obtain rfl := Option.some.inj hx
    exact (.cons (gInt h1) .nil)
  · cases h
theorem flt_e36 (x : Int) : (enc_e36 x).all D.plain = true := rfl
theorem dok_e50 {U : Ty A} {cs : List (D A)} {x : G_Pair} (h : dec_e50 cs = some x) : OkL U cs (enc_e50 x) := by
  unfold dec_e50 at h
  split at h
  · simp only [Option.bind_eq_some_iff] at h
    obtain ⟨b1, h1, b2, h2, hx⟩ := h
    obtain rfl := Option.some.inj hx
    exact (.cons (gStr h1) (.cons (gStr h2) .nil))
  · cases h
theorem flt_e50 (x : G_Pair) : (enc_e50 x).all D.plain = true := rfl
theorem dok_e82 {U : Ty A} {cs : List (D A)} {x : G_Card} (h : dec_e82 cs = some x) : OkL U cs (enc_e82 x) := by
  unfold dec_e82 at h
  split at h
  · simp only [Option.bind_eq_some_iff] at h
    obtain ⟨b1, h1, b2, h2, b3, h3, b4, h4, b5, h5, hx⟩ := h
    obtain rfl := Option.some.inj hx
    exact (.cons (gInt h1) (.cons (gInt h2) (.cons (gInt h3) (.cons (gStr h4) (.cons (gStr h5) .nil)))))
  · cases h
theorem flt_e82 (x : G_Card) : (enc_e82 x).all D.plain = true := rfl
theorem dok_e100 {U : Ty A} {cs : List (D A)} {x : G_Entrant} (h : dec_e100 cs = some x) : OkL U cs (enc_e100 x) := by
  unfold dec_e100 at h
  split at h
  · simp only [Option.bind_eq_some_iff] at h
    obtain ⟨b1, h1, b2, h2, b3, h3, b4, h4, hx⟩ := h
    obtain rfl := Option.some.inj hx
    exact (.cons (gStr h1) (.cons (gStr h2) (.cons (gInt h3) (.cons (gStr h4) .nil))))
  · cases h
theorem flt_e100 (x : G_Entrant) : (enc_e100 x).all D.plain = true := rfl
theorem dok_e103 {U : Ty A} {cs : List (D A)} {x : G_Place} (h : dec_e103 cs = some x) : OkL U cs (enc_e103 x) := by
  unfold dec_e103 at h
  split at h
  · simp only [Option.bind_eq_some_iff] at h
    obtain ⟨b1, h1, b2, h2, b3, h3, hx⟩ := h
    obtain rfl := Option.some.inj hx
    exact (.cons (gInt h1) (.cons (gInt h2) (.cons (gStr h3) .nil)))
  · cases h
theorem flt_e103 (x : G_Place) : (enc_e103 x).all D.plain = true := rfl
theorem dok_e141 {U : Ty A} {cs : List (D A)} {x : G_club_contact} (h : dec_e141 cs = some x) : OkL U cs (enc_e141 x) := by
  unfold dec_e141 at h
  split at h
  · simp only [Option.bind_eq_some_iff] at h
    obtain ⟨b1, h1, b2, h2, b3, h3, hx⟩ := h
    obtain rfl := Option.some.inj hx
    exact (.cons (gStr h1) (.cons (gStr h2) (.cons (gInt h3) .nil)))
  · cases h
theorem flt_e141 (x : G_club_contact) : (enc_e141 x).all D.plain = true := rfl
theorem dok_e146 {U : Ty A} {cs : List (D A)} {x : G_Parts} (h : dec_e146 cs = some x) : OkL U cs (enc_e146 x) := by
  unfold dec_e146 at h
  split at h
  · simp only [Option.bind_eq_some_iff] at h
    obtain ⟨b1, h1, b2, h2, b3, h3, b4, h4, b5, h5, hx⟩ := h
    obtain rfl := Option.some.inj hx
    exact (.cons (gStr h1) (.cons (gStr h2) (.cons (gStr h3) (.cons (gInt h4) (.cons (gStr h5) .nil)))))
  · cases h
theorem flt_e146 (x : G_Parts) : (enc_e146 x).all D.plain = true := rfl
def TD : Ty A := T.day
theorem decOk {U : Ty A} : ∀ k cs x, decE k cs = some x → OkL U cs (encE k x) := by
  intro k cs x h
  cases k
  case e3 => exact dok_e3 h
  case e4 => exact dok_e4 h
  case e9 => exact dok_e9 h
  case e25 => exact dok_e25 h
  case e33 => exact dok_e33 h
  case e36 => exact dok_e36 h
  case e50 => exact dok_e50 h
  case e82 => exact dok_e82 h
  case e100 => exact dok_e100 h
  case e103 => exact dok_e103 h
  case e141 => exact dok_e141 h
  case e146 => exact dok_e146 h
  case no => cases h
theorem tyOkD (P : Program) : TyOk P TD := ⟨fun e x => lenE (el e) x, fun e => posE (el e), fun e cs x h => by
  obtain ⟨h1, h2⟩ := decOk (U := TD) (el e) cs x h
  exact ⟨h1.trans (lenE (el e) x), h2⟩⟩
theorem tyOk (P : Program) : TyOk P T := ⟨fun e x => lenE (el e) x, fun e => posE (el e), fun e cs x h => by
  obtain ⟨h1, h2⟩ := decOk (el e) cs x h
  exact ⟨h1.trans (lenE (el e) x), h2⟩⟩
def flatE : El → Bool
  | .e3 => true
  | .e4 => true
  | .e9 => true
  | .e25 => false
  | .e33 => true
  | .e36 => true
  | .e50 => true
  | .e82 => true
  | .e100 => true
  | .e103 => true
  | .e141 => true
  | .e146 => true
  | .no => false
def flatT (e : Nat) : Bool := flatE (el e)
theorem flatEOk : ∀ k, flatE k = true → ∀ x d, d ∈ encE k x → D.plain d = true := by
  intro k h x d hd
  cases k
  case e3 => exact List.all_eq_true.1 (flt_e3 x) d hd
  case e4 => exact List.all_eq_true.1 (flt_e4 x) d hd
  case e9 => exact List.all_eq_true.1 (flt_e9 x) d hd
  case e25 => cases h
  case e33 => exact List.all_eq_true.1 (flt_e33 x) d hd
  case e36 => exact List.all_eq_true.1 (flt_e36 x) d hd
  case e50 => exact List.all_eq_true.1 (flt_e50 x) d hd
  case e82 => exact List.all_eq_true.1 (flt_e82 x) d hd
  case e100 => exact List.all_eq_true.1 (flt_e100 x) d hd
  case e103 => exact List.all_eq_true.1 (flt_e103 x) d hd
  case e141 => exact List.all_eq_true.1 (flt_e141 x) d hd
  case e146 => exact List.all_eq_true.1 (flt_e146 x) d hd
  case no => cases h
def eq_G_Pair (x y : G_Pair) : Bool := (x.f_Name == y.f_Name && (x.f_Value == y.f_Value && true))
def eq_G_Card (x y : G_Card) : Bool := (x.f_At == y.f_At && (x.f_Kind == y.f_Kind && (x.f_Mode == y.f_Mode && (x.f_Call == y.f_Call && (x.f_Band == y.f_Band && true)))))
def mget_Card_bool (x : G_Card) (m : List (G_Card × Bool)) : Option Bool := getM T 82 4 x m
def mdel_Card_bool (x : G_Card) (m : List (G_Card × Bool)) : List (G_Card × Bool) := delM T 82 4 x m
def mset_Card_bool (x : G_Card) (y : Bool) (m : List (G_Card × Bool)) : List (G_Card × Bool) := setM T 82 4 x y m
def keq_Card (x y : G_Card) : Bool := (x.f_At == y.f_At && (x.f_Kind == y.f_Kind && (x.f_Mode == y.f_Mode && (x.f_Call == y.f_Call && (x.f_Band == y.f_Band && true)))))
theorem mget_Card_bool_nil (x : G_Card) : mget_Card_bool x [] = none := by kernel_rfl
theorem mget_Card_bool_cons (x : G_Card) (p : G_Card × Bool) (m : List (G_Card × Bool)) : mget_Card_bool x (p :: m) = bif keq_Card x p.1 then some p.2 else mget_Card_bool x m := by kernel_rfl
theorem mdel_Card_bool_nil (x : G_Card) : mdel_Card_bool x [] = [] := by kernel_rfl
theorem mdel_Card_bool_cons (x : G_Card) (p : G_Card × Bool) (m : List (G_Card × Bool)) : mdel_Card_bool x (p :: m) = bif keq_Card x p.1 then m else p :: mdel_Card_bool x m := by kernel_rfl
theorem mset_Card_bool_nil (x : G_Card) (y : Bool) : mset_Card_bool x y [] = [(x, y)] := by kernel_rfl
theorem mset_Card_bool_cons (x : G_Card) (y : Bool) (p : G_Card × Bool) (m : List (G_Card × Bool)) : mset_Card_bool x y (p :: m) = bif keq_Card x p.1 then (x, y) :: m else p :: mset_Card_bool x y m := by kernel_rfl
def mget_club_contact_bool (x : G_club_contact) (m : List (G_club_contact × Bool)) : Option Bool := getM T 141 4 x m
def mdel_club_contact_bool (x : G_club_contact) (m : List (G_club_contact × Bool)) : List (G_club_contact × Bool) := delM T 141 4 x m
def mset_club_contact_bool (x : G_club_contact) (y : Bool) (m : List (G_club_contact × Bool)) : List (G_club_contact × Bool) := setM T 141 4 x y m
def keq_club_contact (x y : G_club_contact) : Bool := (x.f_base == y.f_base && (x.f_band == y.f_band && (x.f_mode == y.f_mode && true)))
theorem mget_club_contact_bool_nil (x : G_club_contact) : mget_club_contact_bool x [] = none := by kernel_rfl
theorem mget_club_contact_bool_cons (x : G_club_contact) (p : G_club_contact × Bool) (m : List (G_club_contact × Bool)) : mget_club_contact_bool x (p :: m) = bif keq_club_contact x p.1 then some p.2 else mget_club_contact_bool x m := by kernel_rfl
theorem mdel_club_contact_bool_nil (x : G_club_contact) : mdel_club_contact_bool x [] = [] := by kernel_rfl
theorem mdel_club_contact_bool_cons (x : G_club_contact) (p : G_club_contact × Bool) (m : List (G_club_contact × Bool)) : mdel_club_contact_bool x (p :: m) = bif keq_club_contact x p.1 then m else p :: mdel_club_contact_bool x m := by kernel_rfl
theorem mset_club_contact_bool_nil (x : G_club_contact) (y : Bool) : mset_club_contact_bool x y [] = [(x, y)] := by kernel_rfl
theorem mset_club_contact_bool_cons (x : G_club_contact) (y : Bool) (p : G_club_contact × Bool) (m : List (G_club_contact × Bool)) : mset_club_contact_bool x y (p :: m) = bif keq_club_contact x p.1 then (x, y) :: m else p :: mset_club_contact_bool x y m := by kernel_rfl
theorem ko_82x (x p : G_Card) : eqT Tryz.prog 64 82 (packAV T 82 x) (packAV T 82 p) = some (eqDs (T.enc 82 x) (T.enc 82 p)) := by kernel_rfl
theorem ko_82 : KeyOk Tryz.prog T 82 := by
  intro x p
  exact ko_82x x p
theorem kd_82 : ∃ kd, Tryz.prog.underlying 82 = some kd := Option.isSome_iff_exists.1 (by kernel_rfl)
theorem ko_141x (x p : G_club_contact) : eqT Tryz.prog 64 141 (packAV T 141 x) (packAV T 141 p) = some (eqDs (T.enc 141 x) (T.enc 141 p)) := by kernel_rfl
theorem ko_141 : KeyOk Tryz.prog T 141 := by
  intro x p
  exact ko_141x x p
theorem kd_141 : ∃ kd, Tryz.prog.underlying 141 = some kd := Option.isSome_iff_exists.1 (by kernel_rfl)
def keyT (k : Nat) : Bool := k == 82 || k == 141
theorem keysOk : ∀ k, keyT k = true → KeyOk Tryz.prog T k ∧ ∃ kd, Tryz.prog.underlying k = some kd := by
  intro k h
  simp only [keyT, Bool.or_eq_true, beq_iff_eq] at h
  rcases h with rfl | rfl
  · exact ⟨ko_82, kd_82⟩
  · exact ⟨ko_141, kd_141⟩
theorem flatOk : FlatOk T flatT := fun e h x d hd => flatEOk (el e) h x d hd
theorem std : Std Tryz.prog T keyT flatT := ⟨tyOk Tryz.prog, flatOk, keysOk, by kernel_rfl⟩
abbrev Ok (f : Nat) (S : Spec A) : Prop := OkF Tryz.prog T f S
theorem stdD : Std Tryz.prog TD keyT flatT := ⟨tyOkD Tryz.prog, fun e h x d hd => flatEOk (el e) h x d hd, keysOk, by kernel_rfl⟩
abbrev OkD (f : Nat) (S : Spec A) : Prop := OkF Tryz.prog TD f S
noncomputable def mkE (C : List (Nat × Spec A)) (tg : List (Nat × List Nat)) (lh xh : List (Nat × Hint)) (cl : List (Nat × Piece A)) (sh xs : List (Nat × Hint)) (cs : List (Nat × Piece A)) (md : List (Nat × Nat)) (pin : List Nat) : Env A :=
  { P := Tryz.prog, T := T, C := fun f => C.lookup f, tg := fun d => (tg.lookup d).getD [], seqH := fun i => sh.lookup i, loopH := fun i => lh.lookup i, exitH := fun i => xh.lookup i, exitS := fun i => xs.lookup i, cutS := fun i => cs.lookup i, cutL := fun i => cl.lookup i, mode := fun f i => md.contains (f, i), keyed := keyT, flat := flatT, pin := pin }
noncomputable def mkED (C : List (Nat × Spec A)) (tg : List (Nat × List Nat)) (lh xh : List (Nat × Hint)) (cl : List (Nat × Piece A)) (sh xs : List (Nat × Hint)) (cs : List (Nat × Piece A)) (md : List (Nat × Nat)) (pin : List Nat) : Env A :=
  { P := Tryz.prog, T := TD, C := fun f => C.lookup f, tg := fun d => (tg.lookup d).getD [], seqH := fun i => sh.lookup i, loopH := fun i => lh.lookup i, exitH := fun i => xh.lookup i, exitS := fun i => xs.lookup i, cutS := fun i => cs.lookup i, cutL := fun i => cl.lookup i, mode := fun f i => md.contains (f, i), keyed := keyT, flat := flatT, pin := pin }
end Go.Am
