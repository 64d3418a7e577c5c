/- The functions of the program as Lean functions, each shown to be what the code computes, part 0. No condition: lemmas for the claim. -/
import Derived.Test.YtecelackdggokaaGreatDoorAmPrint
import Derived.Test.YtecelackdggokaaGreatDoorProg
import Derived.KernelRfl
set_option linter.unusedVariables false
set_option maxRecDepth 100000
namespace Go.Am
open Go Go.Proofs
structure G_Stream where
  f_L : List Int
  f_at : Int
  deriving DecidableEq
structure G_Card where
  f_At : Int
  f_Kind : Int
  f_Mode : Int
  f_Call : List UInt8
  f_Band : List UInt8
  deriving DecidableEq
structure G_Pair where
  f_Name : List UInt8
  f_Value : List UInt8
  deriving DecidableEq
structure G_club_contact where
  f_base : List UInt8
  f_band : List UInt8
  f_mode : Int
  deriving DecidableEq
structure G_Entrant where
  f_Call : List UInt8
  f_Category : List UInt8
  f_Points : Int
  f_Locator : List UInt8
  deriving DecidableEq
structure G_Place where
  f_Rank : Int
  f_Points : Int
  f_Key : List UInt8
  deriving DecidableEq
structure G_Parts where
  f_Base : List UInt8
  f_Prefix : List UInt8
  f_Suffix : List UInt8
  f_Kind : Int
  f_Added : List UInt8
  deriving DecidableEq
inductive El where
  | e3 | e4 | e9 | e25 | e38 | e51 | e66 | e69 | e131 | e148 | e151 | e198 | no
def el : Nat → El
  | 3 => .e3
  | 4 => .e4
  | 9 => .e9
  | 25 => .e25
  | 38 => .e38
  | 51 => .e51
  | 66 => .e66
  | 69 => .e69
  | 131 => .e131
  | 148 => .e148
  | 151 => .e151
  | 198 => .e198
  | _ => .no
def AE : El → Type
  | .e3 => Int
  | .e4 => Bool
  | .e9 => List UInt8
  | .e25 => G_Stream
  | .e38 => Int
  | .e51 => List G_Card
  | .e66 => G_Card
  | .e69 => G_Pair
  | .e131 => G_club_contact
  | .e148 => G_Entrant
  | .e151 => G_Place
  | .e198 => G_Parts
  | .no => Unit
abbrev A (e : Nat) : Type := AE (el e)
def sizeE : El → Nat
  | .e3 => 1
  | .e4 => 1
  | .e9 => 1
  | .e25 => 2
  | .e38 => 1
  | .e51 => 1
  | .e66 => 5
  | .e69 => 2
  | .e131 => 3
  | .e148 => 4
  | .e151 => 3
  | .e198 => 5
  | .no => 1
def enc_e3 (x : Int) : List (D A) := [.int .i64 x]
def dec_e3 (cs : List (D A)) : Option (Int) := match cs with | [c0] => (dInt .i64 c0).bind fun b1 => some b1 | _ => none
def enc_e4 (x : Bool) : List (D A) := [.bool x]
def dec_e4 (cs : List (D A)) : Option (Bool) := match cs with | [c0] => (dBool c0).bind fun b1 => some b1 | _ => none
def enc_e9 (x : List UInt8) : List (D A) := [.str x]
def dec_e9 (cs : List (D A)) : Option (List UInt8) := match cs with | [c0] => (dStr c0).bind fun b1 => some b1 | _ => none
def enc_e25 (x : G_Stream) : List (D A) := [.sl 3 x.f_L, .int .i64 x.f_at]
def dec_e25 (cs : List (D A)) : Option (G_Stream) := match cs with | [c0, c1] => (dSl 3 c0).bind fun b1 => (dInt .i64 c1).bind fun b2 => some ⟨b1, b2⟩ | _ => none
def enc_e38 (x : Int) : List (D A) := [.int .i64 x]
def dec_e38 (cs : List (D A)) : Option (Int) := match cs with | [c0] => (dInt .i64 c0).bind fun b1 => some b1 | _ => none
def enc_e51 (x : List G_Card) : List (D A) := [.sl 66 x]
def dec_e51 (cs : List (D A)) : Option (List G_Card) := match cs with | [c0] => (dSl 66 c0).bind fun b1 => some b1 | _ => none
def enc_e66 (x : G_Card) : List (D A) := [.int .i64 x.f_At, .int .i64 x.f_Kind, .int .i64 x.f_Mode, .str x.f_Call, .str x.f_Band]
def dec_e66 (cs : List (D A)) : Option (G_Card) := match cs with | [c0, c1, c2, c3, c4] => (dInt .i64 c0).bind fun b1 => (dInt .i64 c1).bind fun b2 => (dInt .i64 c2).bind fun b3 => (dStr c3).bind fun b4 => (dStr c4).bind fun b5 => some ⟨b1, b2, b3, b4, b5⟩ | _ => none
def enc_e69 (x : G_Pair) : List (D A) := [.str x.f_Name, .str x.f_Value]
def dec_e69 (cs : List (D A)) : Option (G_Pair) := match cs with | [c0, c1] => (dStr c0).bind fun b1 => (dStr c1).bind fun b2 => some ⟨b1, b2⟩ | _ => none
def enc_e131 (x : G_club_contact) : List (D A) := [.str x.f_base, .str x.f_band, .int .i64 x.f_mode]
def dec_e131 (cs : List (D A)) : Option (G_club_contact) := match cs with | [c0, c1, c2] => (dStr c0).bind fun b1 => (dStr c1).bind fun b2 => (dInt .i64 c2).bind fun b3 => some ⟨b1, b2, b3⟩ | _ => none
def enc_e148 (x : G_Entrant) : List (D A) := [.str x.f_Call, .str x.f_Category, .int .i64 x.f_Points, .str x.f_Locator]
def dec_e148 (cs : List (D A)) : Option (G_Entrant) := match cs with | [c0, c1, c2, c3] => (dStr c0).bind fun b1 => (dStr c1).bind fun b2 => (dInt .i64 c2).bind fun b3 => (dStr c3).bind fun b4 => some ⟨b1, b2, b3, b4⟩ | _ => none
def enc_e151 (x : G_Place) : List (D A) := [.int .i64 x.f_Rank, .int .i64 x.f_Points, .str x.f_Key]
def dec_e151 (cs : List (D A)) : Option (G_Place) := match cs with | [c0, c1, c2] => (dInt .i64 c0).bind fun b1 => (dInt .i64 c1).bind fun b2 => (dStr c2).bind fun b3 => some ⟨b1, b2, b3⟩ | _ => none
def enc_e198 (x : G_Parts) : List (D A) := [.str x.f_Base, .str x.f_Prefix, .str x.f_Suffix, .int .i64 x.f_Kind, .str x.f_Added]
def dec_e198 (cs : List (D A)) : Option (G_Parts) := match cs with | [c0, c1, c2, c3, c4] => (dStr c0).bind fun b1 => (dStr c1).bind fun b2 => (dStr c2).bind fun b3 => (dInt .i64 c3).bind fun b4 => (dStr c4).bind fun b5 => some ⟨b1, b2, b3, b4, b5⟩ | _ => none
def encE : (k : El) → AE k → List (D A)
  | .e3, x => enc_e3 x
  | .e4, x => enc_e4 x
  | .e9, x => enc_e9 x
  | .e25, x => enc_e25 x
  | .e38, x => enc_e38 x
  | .e51, x => enc_e51 x
  | .e66, x => enc_e66 x
  | .e69, x => enc_e69 x
  | .e131, x => enc_e131 x
  | .e148, x => enc_e148 x
  | .e151, x => enc_e151 x
  | .e198, x => enc_e198 x
  | .no, _ => [.nilif]
def decE : (k : El) → List (D A) → Option (AE k)
  | .e3, cs => dec_e3 cs
  | .e4, cs => dec_e4 cs
  | .e9, cs => dec_e9 cs
  | .e25, cs => dec_e25 cs
  | .e38, cs => dec_e38 cs
  | .e51, cs => dec_e51 cs
  | .e66, cs => dec_e66 cs
  | .e69, cs => dec_e69 cs
  | .e131, cs => dec_e131 cs
  | .e148, cs => dec_e148 cs
  | .e151, cs => dec_e151 cs
  | .e198, cs => dec_e198 cs
  | .no, _ => none
def aggE : El → Bool
  | .e3 => false
  | .e4 => false
  | .e9 => false
  | .e25 => true
  | .e38 => false
  | .e51 => false
  | .e66 => true
  | .e69 => true
  | .e131 => true
  | .e148 => true
  | .e151 => true
  | .e198 => true
  | .no => false
def T : Ty A where
  size := fun e => sizeE (el e)
  enc := fun e x => encE (el e) x
  dec := fun e cs => decE (el e) cs
  agg := fun e => aggE (el e)
theorem lenE : ∀ k x, (encE k x).length = sizeE k := by intro k x; cases k <;> rfl
theorem posE : ∀ k, 0 < sizeE k := by intro k; cases k <;> decide
theorem dok_e3 {U : Ty A} {cs : List (D A)} {x : Int} (h : dec_e3 cs = some x) : OkL U cs (enc_e3 x) := by
  unfold dec_e3 at h
  split at h
  · simp only [Option.bind_eq_some_iff] at h
    obtain ⟨b1, h1, hx⟩ := h
    obtain rfl := Option.some.inj hx
    exact (.cons (gInt h1) .nil)
  · cases h
theorem flt_e3 (x : Int) : (enc_e3 x).all D.plain = true := rfl
theorem dok_e4 {U : Ty A} {cs : List (D A)} {x : Bool} (h : dec_e4 cs = some x) : OkL U cs (enc_e4 x) := by
  unfold dec_e4 at h
  split at h
  · simp only [Option.bind_eq_some_iff] at h
    obtain ⟨b1, h1, hx⟩ := h
    obtain rfl := Option.some.inj hx
    exact (.cons (gBool h1) .nil)
  · cases h
theorem flt_e4 (x : Bool) : (enc_e4 x).all D.plain = true := rfl
theorem dok_e9 {U : Ty A} {cs : List (D A)} {x : List UInt8} (h : dec_e9 cs = some x) : OkL U cs (enc_e9 x) := by
  unfold dec_e9 at h
  split at h
  · simp only [Option.bind_eq_some_iff] at h
    obtain ⟨b1, h1, hx⟩ := h
    obtain rfl := Option.some.inj hx
    exact (.cons (gStr h1) .nil)
  · cases h
theorem flt_e9 (x : List UInt8) : (enc_e9 x).all D.plain = true := rfl
theorem dok_e25 {U : Ty A} {cs : List (D A)} {x : G_Stream} (h : dec_e25 cs = some x) : OkL U cs (enc_e25 x) := by
  unfold dec_e25 at h
  split at h
  · simp only [Option.bind_eq_some_iff] at h
    obtain ⟨b1, h1, b2, h2, hx⟩ := h
    obtain rfl := Option.some.inj hx
    exact (.cons (gSl h1) (.cons (gInt h2) .nil))
  · cases h
theorem dok_e38 {U : Ty A} {cs : List (D A)} {x : Int} (h : dec_e38 cs = some x) : OkL U cs (enc_e38 x) := by
  unfold dec_e38 at h
  split at h
  · simp only [Option.bind_eq_some_iff] at h
    obtain ⟨b1, h1, hx⟩ := h
    obtain rfl := Option.some.inj hx
    exact (.cons (gInt h1) .nil)
  · cases h
theorem flt_e38 (x : Int) : (enc_e38 x).all D.plain = true := rfl
theorem dok_e51 {U : Ty A} {cs : List (D A)} {x : List G_Card} (h : dec_e51 cs = some x) : OkL U cs (enc_e51 x) := by
  unfold dec_e51 at h
  split at h
  · simp only [Option.bind_eq_some_iff] at h
    obtain ⟨b1, h1, hx⟩ := h
    obtain rfl := Option.some.inj hx
    exact (.cons (gSl h1) .nil)
  · cases h
theorem dok_e66 {U : Ty A} {cs : List (D A)} {x : G_Card} (h : dec_e66 cs = some x) : OkL U cs (enc_e66 x) := by
  unfold dec_e66 at h
  split at h
  · simp only [Option.bind_eq_some_iff] at h
    obtain ⟨b1, h1, b2, h2, b3, h3, b4, h4, b5, h5, hx⟩ := h
    obtain rfl := Option.some.inj hx
    exact (.cons (gInt h1) (.cons (gInt h2) (.cons (gInt h3) (.cons (gStr h4) (.cons (gStr h5) .nil)))))
  · cases h
theorem flt_e66 (x : G_Card) : (enc_e66 x).all D.plain = true := rfl
theorem dok_e69 {U : Ty A} {cs : List (D A)} {x : G_Pair} (h : dec_e69 cs = some x) : OkL U cs (enc_e69 x) := by
  unfold dec_e69 at h
  split at h
  · simp only [Option.bind_eq_some_iff] at h
    obtain ⟨b1, h1, b2, h2, hx⟩ := h
    obtain rfl := Option.some.inj hx
    exact (.cons (gStr h1) (.cons (gStr h2) .nil))
  · cases h
theorem flt_e69 (x : G_Pair) : (enc_e69 x).all D.plain = true := rfl
theorem dok_e131 {U : Ty A} {cs : List (D A)} {x : G_club_contact} (h : dec_e131 cs = some x) : OkL U cs (enc_e131 x) := by
  unfold dec_e131 at h
  split at h
  · simp only [Option.bind_eq_some_iff] at h
    obtain ⟨b1, h1, b2, h2, b3, h3, hx⟩ := h
    obtain rfl := Option.some.inj hx
    exact (.cons (gStr h1) (.cons (gStr h2) (.cons (gInt h3) .nil)))
  · cases h
theorem flt_e131 (x : G_club_contact) : (enc_e131 x).all D.plain = true := rfl
theorem dok_e148 {U : Ty A} {cs : List (D A)} {x : G_Entrant} (h : dec_e148 cs = some x) : OkL U cs (enc_e148 x) := by
  unfold dec_e148 at h
  split at h
  · simp only [Option.bind_eq_some_iff] at h
    obtain ⟨b1, h1, b2, h2, b3, h3, b4, h4, hx⟩ := h
    obtain rfl := Option.some.inj hx
    exact (.cons (gStr h1) (.cons (gStr h2) (.cons (gInt h3) (.cons (gStr h4) .nil))))
  · cases h
theorem flt_e148 (x : G_Entrant) : (enc_e148 x).all D.plain = true := rfl
theorem dok_e151 {U : Ty A} {cs : List (D A)} {x : G_Place} (h : dec_e151 cs = some x) : OkL U cs (enc_e151 x) := by
  unfold dec_e151 at h
  split at h
  · simp only [Option.bind_eq_some_iff] at h
    obtain ⟨b1, h1, b2, h2, b3, h3, hx⟩ := h
    obtain rfl := Option.some.inj hx
    exact (.cons (gInt h1) (.cons (gInt h2) (.cons (gStr h3) .nil)))
  · cases h
theorem flt_e151 (x : G_Place) : (enc_e151 x).all D.plain = true := rfl
theorem dok_e198 {U : Ty A} {cs : List (D A)} {x : G_Parts} (h : dec_e198 cs = some x) : OkL U cs (enc_e198 x) := by
  unfold dec_e198 at h
  split at h
  · simp only [Option.bind_eq_some_iff] at h
    obtain ⟨b1, h1, b2, h2, b3, h3, b4, h4, b5, h5, hx⟩ := h
    obtain rfl := Option.some.inj hx
    exact (.cons (gStr h1) (.cons (gStr h2) (.cons (gStr h3) (.cons (gInt h4) (.cons (gStr h5) .nil)))))
  · cases h
theorem flt_e198 (x : G_Parts) : (enc_e198 x).all D.plain = true := rfl
def TD : Ty A := { T with dr := true }
theorem decOk {U : Ty A} : ∀ k cs x, decE k cs = some x → OkL U cs (encE k x) := by
  intro k cs x h
  cases k
  case e3 => exact dok_e3 h
  case e4 => exact dok_e4 h
  case e9 => exact dok_e9 h
  case e25 => exact dok_e25 h
  case e38 => exact dok_e38 h
  case e51 => exact dok_e51 h
  case e66 => exact dok_e66 h
  case e69 => exact dok_e69 h
  case e131 => exact dok_e131 h
  case e148 => exact dok_e148 h
  case e151 => exact dok_e151 h
  case e198 => exact dok_e198 h
  case no => cases h
theorem tyOkD (P : Program) : TyOk P TD := ⟨fun e x => lenE (el e) x, fun e => posE (el e), fun e cs x h => by
  obtain ⟨h1, h2⟩ := decOk (U := TD) (el e) cs x h
  exact ⟨h1.trans (lenE (el e) x), h2⟩⟩
theorem tyOk (P : Program) : TyOk P T := ⟨fun e x => lenE (el e) x, fun e => posE (el e), fun e cs x h => by
  obtain ⟨h1, h2⟩ := decOk (el e) cs x h
  exact ⟨h1.trans (lenE (el e) x), h2⟩⟩
def flatE : El → Bool
  | .e3 => true
  | .e4 => true
  | .e9 => true
  | .e25 => false
  | .e38 => true
  | .e51 => false
  | .e66 => true
  | .e69 => true
  | .e131 => true
  | .e148 => true
  | .e151 => true
  | .e198 => true
  | .no => false
def flatT (e : Nat) : Bool := flatE (el e)
theorem flatEOk : ∀ k, flatE k = true → ∀ x d, d ∈ encE k x → D.plain d = true := by
  intro k h x d hd
  cases k
  case e3 => exact List.all_eq_true.1 (flt_e3 x) d hd
  case e4 => exact List.all_eq_true.1 (flt_e4 x) d hd
  case e9 => exact List.all_eq_true.1 (flt_e9 x) d hd
  case e25 => cases h
  case e38 => exact List.all_eq_true.1 (flt_e38 x) d hd
  case e51 => cases h
  case e66 => exact List.all_eq_true.1 (flt_e66 x) d hd
  case e69 => exact List.all_eq_true.1 (flt_e69 x) d hd
  case e131 => exact List.all_eq_true.1 (flt_e131 x) d hd
  case e148 => exact List.all_eq_true.1 (flt_e148 x) d hd
  case e151 => exact List.all_eq_true.1 (flt_e151 x) d hd
  case e198 => exact List.all_eq_true.1 (flt_e198 x) d hd
  case no => cases h
def eq_G_Card (x y : G_Card) : Bool := (x.f_At == y.f_At && (x.f_Kind == y.f_Kind && (x.f_Mode == y.f_Mode && (x.f_Call == y.f_Call && (x.f_Band == y.f_Band && true)))))
def eq_G_Pair (x y : G_Pair) : Bool := (x.f_Name == y.f_Name && (x.f_Value == y.f_Value && true))
def mget_club_contact_bool (x : G_club_contact) (m : List (G_club_contact × Bool)) : Option Bool := getM T 131 4 x m
def mset_club_contact_bool (x : G_club_contact) (y : Bool) (m : List (G_club_contact × Bool)) : List (G_club_contact × Bool) := setM T 131 4 x y m
def keq_club_contact (x y : G_club_contact) : Bool := (x.f_base == y.f_base && (x.f_band == y.f_band && (x.f_mode == y.f_mode && true)))
theorem mget_club_contact_bool_nil (x : G_club_contact) : mget_club_contact_bool x [] = none := by kernel_rfl
theorem mget_club_contact_bool_cons (x : G_club_contact) (p : G_club_contact × Bool) (m : List (G_club_contact × Bool)) : mget_club_contact_bool x (p :: m) = bif keq_club_contact x p.1 then some p.2 else mget_club_contact_bool x m := by kernel_rfl
theorem mset_club_contact_bool_nil (x : G_club_contact) (y : Bool) : mset_club_contact_bool x y [] = [(x, y)] := by kernel_rfl
theorem mset_club_contact_bool_cons (x : G_club_contact) (y : Bool) (p : G_club_contact × Bool) (m : List (G_club_contact × Bool)) : mset_club_contact_bool x y (p :: m) = bif keq_club_contact x p.1 then (x, y) :: m else p :: mset_club_contact_bool x y m := by kernel_rfl
theorem ko_131x (x p : G_club_contact) : eqT Tryz.prog 64 131 (packAV T 131 x) (packAV T 131 p) = some (eqDs (T.enc 131 x) (T.enc 131 p)) := by kernel_rfl
theorem ko_131 : KeyOk Tryz.prog T 131 := by
  intro x p
  exact ko_131x x p
theorem kd_131 : ∃ kd, Tryz.prog.underlying 131 = some kd := Option.isSome_iff_exists.1 (by kernel_rfl)
def keyT (k : Nat) : Bool := k == 131
theorem keysOk : ∀ k, keyT k = true → KeyOk Tryz.prog T k ∧ ∃ kd, Tryz.prog.underlying k = some kd := by
  intro k h
  simp only [keyT, Bool.or_eq_true, beq_iff_eq] at h
  rcases h with rfl
  · exact ⟨ko_131, kd_131⟩
theorem flatOk : FlatOk T flatT := fun e h x d hd => flatEOk (el e) h x d hd
theorem std : Std Tryz.prog T keyT flatT := ⟨tyOk Tryz.prog, flatOk, keysOk, by kernel_rfl⟩
abbrev Ok (f : Nat) (S : Spec A) : Prop := OkF Tryz.prog T f S
theorem stdD : Std Tryz.prog TD keyT flatT := ⟨tyOkD Tryz.prog, fun e h x d hd => flatEOk (el e) h x d hd, keysOk, by kernel_rfl⟩
abbrev OkD (f : Nat) (S : Spec A) : Prop := OkF Tryz.prog TD f S
noncomputable def mkE (C : List (Nat × Spec A)) (tg : List (Nat × List Nat)) (lh xh : List (Nat × Hint)) (cl : List (Nat × Piece A)) (sh xs : List (Nat × Hint)) (cs : List (Nat × Piece A)) (md : List (Nat × Nat)) (pin : List Nat) : Env A :=
  { P := Tryz.prog, T := T, C := fun f => C.lookup f, tg := fun d => (tg.lookup d).getD [], seqH := fun i => sh.lookup i, loopH := fun i => lh.lookup i, exitH := fun i => xh.lookup i, exitS := fun i => xs.lookup i, cutS := fun i => cs.lookup i, cutL := fun i => cl.lookup i, mode := fun f i => md.contains (f, i), keyed := keyT, flat := flatT, pin := pin }
noncomputable def mkED (C : List (Nat × Spec A)) (tg : List (Nat × List Nat)) (lh xh : List (Nat × Hint)) (cl : List (Nat × Piece A)) (sh xs : List (Nat × Hint)) (cs : List (Nat × Piece A)) (md : List (Nat × Nat)) (pin : List Nat) : Env A :=
  { P := Tryz.prog, T := TD, C := fun f => C.lookup f, tg := fun d => (tg.lookup d).getD [], seqH := fun i => sh.lookup i, loopH := fun i => lh.lookup i, exitH := fun i => xh.lookup i, exitS := fun i => xs.lookup i, cutS := fun i => cs.lookup i, cutL := fun i => cl.lookup i, mode := fun f i => md.contains (f, i), keyed := keyT, flat := flatT, pin := pin }
end Go.Am
