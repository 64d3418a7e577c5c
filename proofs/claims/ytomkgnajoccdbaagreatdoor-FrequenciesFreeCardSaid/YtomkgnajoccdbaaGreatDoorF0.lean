/- The functions of the program as Lean functions, each shown to be what the code computes, part 0. No condition: lemmas for the claim. -/
import Derived.Test.YtomkgnajoccdbaaGreatDoorAmPrint
import Derived.Test.YtomkgnajoccdbaaGreatDoorProg
import Derived.KernelRfl
set_option linter.unusedVariables false
set_option maxRecDepth 100000
namespace Go.Am
open Go Go.Proofs
structure G_Stream where
  f_L : List Int
  f_at : Int
  deriving DecidableEq
structure G_Row where
  f_From : Int
  f_To : Int
  deriving DecidableEq
structure G_Pair where
  f_Name : List UInt8
  f_Value : List UInt8
  deriving DecidableEq
structure G_Window where
  f_From : Int
  f_To : Int
  deriving DecidableEq
structure G_Segment where
  f_Class : List UInt8
  f_Low : Int
  f_High : Int
  f_Modes : List Int
  f_Time : G_Window
  deriving DecidableEq
structure G_Busy where
  f_Who : List UInt8
  f_Hertz : Int
  f_Width : Int
  f_Time : G_Window
  deriving DecidableEq
structure G_Parts where
  f_Base : List UInt8
  f_Prefix : List UInt8
  f_Suffix : List UInt8
  f_Kind : Int
  f_Added : List UInt8
  deriving DecidableEq
inductive El where
  | e3 | e9 | e25 | e35 | e62 | e77 | e80 | e113 | e115 | e120 | e142 | no
def el : Nat → El
  | 3 => .e3
  | 9 => .e9
  | 25 => .e25
  | 35 => .e35
  | 62 => .e62
  | 77 => .e77
  | 80 => .e80
  | 113 => .e113
  | 115 => .e115
  | 120 => .e120
  | 142 => .e142
  | _ => .no
def AE : El → Type
  | .e3 => Int
  | .e9 => List UInt8
  | .e25 => G_Stream
  | .e35 => Int
  | .e62 => List G_Row
  | .e77 => G_Pair
  | .e80 => G_Row
  | .e113 => G_Window
  | .e115 => G_Segment
  | .e120 => G_Busy
  | .e142 => G_Parts
  | .no => Unit
abbrev A (e : Nat) : Type := AE (el e)
def sizeE : El → Nat
  | .e3 => 1
  | .e9 => 1
  | .e25 => 2
  | .e35 => 1
  | .e62 => 1
  | .e77 => 2
  | .e80 => 2
  | .e113 => 2
  | .e115 => 6
  | .e120 => 5
  | .e142 => 5
  | .no => 1
def enc_e3 (x : Int) : List (D A) := [.int .i64 x]
def dec_e3 (cs : List (D A)) : Option (Int) := match cs with | [c0] => (dInt .i64 c0).bind fun b1 => some b1 | _ => none
def enc_e9 (x : List UInt8) : List (D A) := [.str x]
def dec_e9 (cs : List (D A)) : Option (List UInt8) := match cs with | [c0] => (dStr c0).bind fun b1 => some b1 | _ => none
def enc_e25 (x : G_Stream) : List (D A) := [.sl 3 x.f_L, .int .i64 x.f_at]
def dec_e25 (cs : List (D A)) : Option (G_Stream) := match cs with | [c0, c1] => (dSl 3 c0).bind fun b1 => (dInt .i64 c1).bind fun b2 => some ⟨b1, b2⟩ | _ => none
def enc_e35 (x : Int) : List (D A) := [.int .i64 x]
def dec_e35 (cs : List (D A)) : Option (Int) := match cs with | [c0] => (dInt .i64 c0).bind fun b1 => some b1 | _ => none
def enc_e62 (x : List G_Row) : List (D A) := [.sl 80 x]
def dec_e62 (cs : List (D A)) : Option (List G_Row) := match cs with | [c0] => (dSl 80 c0).bind fun b1 => some b1 | _ => none
def enc_e77 (x : G_Pair) : List (D A) := [.str x.f_Name, .str x.f_Value]
def dec_e77 (cs : List (D A)) : Option (G_Pair) := match cs with | [c0, c1] => (dStr c0).bind fun b1 => (dStr c1).bind fun b2 => some ⟨b1, b2⟩ | _ => none
def enc_e80 (x : G_Row) : List (D A) := [.int .i64 x.f_From, .int .i64 x.f_To]
def dec_e80 (cs : List (D A)) : Option (G_Row) := match cs with | [c0, c1] => (dInt .i64 c0).bind fun b1 => (dInt .i64 c1).bind fun b2 => some ⟨b1, b2⟩ | _ => none
def enc_e113 (x : G_Window) : List (D A) := [.int .i64 x.f_From, .int .i64 x.f_To]
def dec_e113 (cs : List (D A)) : Option (G_Window) := match cs with | [c0, c1] => (dInt .i64 c0).bind fun b1 => (dInt .i64 c1).bind fun b2 => some ⟨b1, b2⟩ | _ => none
def enc_e115 (x : G_Segment) : List (D A) := [.str x.f_Class, .int .i64 x.f_Low, .int .i64 x.f_High, .sl 3 x.f_Modes, .int .i64 x.f_Time.f_From, .int .i64 x.f_Time.f_To]
def dec_e115 (cs : List (D A)) : Option (G_Segment) := match cs with | [c0, c1, c2, c3, c4, c5] => (dStr c0).bind fun b1 => (dInt .i64 c1).bind fun b2 => (dInt .i64 c2).bind fun b3 => (dSl 3 c3).bind fun b4 => (dInt .i64 c4).bind fun b5 => (dInt .i64 c5).bind fun b6 => some ⟨b1, b2, b3, b4, ⟨b5, b6⟩⟩ | _ => none
def enc_e120 (x : G_Busy) : List (D A) := [.str x.f_Who, .int .i64 x.f_Hertz, .int .i64 x.f_Width, .int .i64 x.f_Time.f_From, .int .i64 x.f_Time.f_To]
def dec_e120 (cs : List (D A)) : Option (G_Busy) := match cs with | [c0, c1, c2, c3, c4] => (dStr c0).bind fun b1 => (dInt .i64 c1).bind fun b2 => (dInt .i64 c2).bind fun b3 => (dInt .i64 c3).bind fun b4 => (dInt .i64 c4).bind fun b5 => some ⟨b1, b2, b3, ⟨b4, b5⟩⟩ | _ => none
def enc_e142 (x : G_Parts) : List (D A) := [.str x.f_Base, .str x.f_Prefix, .str x.f_Suffix, .int .i64 x.f_Kind, .str x.f_Added]
def dec_e142 (cs : List (D A)) : Option (G_Parts) := match cs with | [c0, c1, c2, c3, c4] => (dStr c0).bind fun b1 => (dStr c1).bind fun b2 => (dStr c2).bind fun b3 => (dInt .i64 c3).bind fun b4 => (dStr c4).bind fun b5 => some ⟨b1, b2, b3, b4, b5⟩ | _ => none
def encE : (k : El) → AE k → List (D A)
  | .e3, x => enc_e3 x
  | .e9, x => enc_e9 x
  | .e25, x => enc_e25 x
  | .e35, x => enc_e35 x
  | .e62, x => enc_e62 x
  | .e77, x => enc_e77 x
  | .e80, x => enc_e80 x
  | .e113, x => enc_e113 x
  | .e115, x => enc_e115 x
  | .e120, x => enc_e120 x
  | .e142, x => enc_e142 x
  | .no, _ => [.nilif]
def decE : (k : El) → List (D A) → Option (AE k)
  | .e3, cs => dec_e3 cs
  | .e9, cs => dec_e9 cs
  | .e25, cs => dec_e25 cs
  | .e35, cs => dec_e35 cs
  | .e62, cs => dec_e62 cs
  | .e77, cs => dec_e77 cs
  | .e80, cs => dec_e80 cs
  | .e113, cs => dec_e113 cs
  | .e115, cs => dec_e115 cs
  | .e120, cs => dec_e120 cs
  | .e142, cs => dec_e142 cs
  | .no, _ => none
def aggE : El → Bool
  | .e3 => false
  | .e9 => false
  | .e25 => true
  | .e35 => false
  | .e62 => false
  | .e77 => true
  | .e80 => true
  | .e113 => true
  | .e115 => true
  | .e120 => true
  | .e142 => true
  | .no => false
def T : Ty A where
  size := fun e => sizeE (el e)
  enc := fun e x => encE (el e) x
  dec := fun e cs => decE (el e) cs
  agg := fun e => aggE (el e)
theorem lenE : ∀ k x, (encE k x).length = sizeE k := by intro k x; cases k <;> rfl
theorem posE : ∀ k, 0 < sizeE k := by intro k; cases k <;> decide
theorem dok_e3 {U : Ty A} {cs : List (D A)} {x : Int} (h : dec_e3 cs = some x) : OkL U cs (enc_e3 x) := by
  unfold dec_e3 at h
  split at h
  · simp only [Option.bind_eq_some_iff] at h
    obtain ⟨b1, h1, hx⟩ := h
    obtain rfl := Option.some.inj hx
    exact (.cons (gInt h1) .nil)
  · cases h
theorem flt_e3 (x : Int) : (enc_e3 x).all D.plain = true := rfl
theorem dok_e9 {U : Ty A} {cs : List (D A)} {x : List UInt8} (h : dec_e9 cs = some x) : OkL U cs (enc_e9 x) := by
  unfold dec_e9 at h
  split at h
  · simp only [Option.bind_eq_some_iff] at h
    obtain ⟨b1, h1, hx⟩ := h
    obtain rfl := Option.some.inj hx
    exact (.cons (gStr h1) .nil)
  · cases h
theorem flt_e9 (x : List UInt8) : (enc_e9 x).all D.plain = true := rfl
theorem dok_e25 {U : Ty A} {cs : List (D A)} {x : G_Stream} (h : dec_e25 cs = some x) : OkL U cs (enc_e25 x) := by
  unfold dec_e25 at h
  split at h
  · simp only [Option.bind_eq_some_iff] at h
    obtain ⟨b1, h1, b2, h2, hx⟩ := h
    obtain rfl := Option.some.inj hx
    exact (.cons (gSl h1) (.cons (gInt h2) .nil))
  · cases h
theorem dok_e35 {U : Ty A} {cs : List (D A)} {x : Int} (h : dec_e35 cs = some x) : OkL U cs (enc_e35 x) := by
  unfold dec_e35 at h
  split at h
  · simp only [Option.bind_eq_some_iff] at h
    obtain ⟨b1, h1, hx⟩ := h
    obtain rfl := Option.some.inj hx
    exact (.cons (gInt h1) .nil)
  · cases h
theorem flt_e35 (x : Int) : (enc_e35 x).all D.plain = true := rfl
theorem dok_e62 {U : Ty A} {cs : List (D A)} {x : List G_Row} (h : dec_e62 cs = some x) : OkL U cs (enc_e62 x) := by
  unfold dec_e62 at h
  split at h
  · simp only [Option.bind_eq_some_iff] at h
    obtain ⟨b1, h1, hx⟩ := h
    obtain rfl := Option.some.inj hx
    exact (.cons (gSl h1) .nil)
  · cases h
theorem dok_e77 {U : Ty A} {cs : List (D A)} {x : G_Pair} (h : dec_e77 cs = some x) : OkL U cs (enc_e77 x) := by
  unfold dec_e77 at h
  split at h
  · simp only [Option.bind_eq_some_iff] at h
    obtain ⟨b1, h1, b2, h2, hx⟩ := h
    obtain rfl := Option.some.inj hx
    exact (.cons (gStr h1) (.cons (gStr h2) .nil))
  · cases h
theorem flt_e77 (x : G_Pair) : (enc_e77 x).all D.plain = true := rfl
theorem dok_e80 {U : Ty A} {cs : List (D A)} {x : G_Row} (h : dec_e80 cs = some x) : OkL U cs (enc_e80 x) := by
  unfold dec_e80 at h
  split at h
  · simp only [Option.bind_eq_some_iff] at h
    obtain ⟨b1, h1, b2, h2, hx⟩ := h
    obtain rfl := Option.some.inj hx
    exact (.cons (gInt h1) (.cons (gInt h2) .nil))
  · cases h
theorem flt_e80 (x : G_Row) : (enc_e80 x).all D.plain = true := rfl
theorem dok_e113 {U : Ty A} {cs : List (D A)} {x : G_Window} (h : dec_e113 cs = some x) : OkL U cs (enc_e113 x) := by
  unfold dec_e113 at h
  split at h
  · simp only [Option.bind_eq_some_iff] at h
    obtain ⟨b1, h1, b2, h2, hx⟩ := h
    obtain rfl := Option.some.inj hx
    exact (.cons (gInt h1) (.cons (gInt h2) .nil))
  · cases h
theorem flt_e113 (x : G_Window) : (enc_e113 x).all D.plain = true := rfl
theorem dok_e115 {U : Ty A} {cs : List (D A)} {x : G_Segment} (h : dec_e115 cs = some x) : OkL U cs (enc_e115 x) := by
  unfold dec_e115 at h
  split at h
  · simp only [Option.bind_eq_some_iff] at h
    obtain ⟨b1, h1, b2, h2, b3, h3, b4, h4, b5, h5, b6, h6, hx⟩ := h
    obtain rfl := Option.some.inj hx
    exact (.cons (gStr h1) (.cons (gInt h2) (.cons (gInt h3) (.cons (gSl h4) (.cons (gInt h5) (.cons (gInt h6) .nil))))))
  · cases h
theorem dok_e120 {U : Ty A} {cs : List (D A)} {x : G_Busy} (h : dec_e120 cs = some x) : OkL U cs (enc_e120 x) := by
  unfold dec_e120 at h
  split at h
  · simp only [Option.bind_eq_some_iff] at h
    obtain ⟨b1, h1, b2, h2, b3, h3, b4, h4, b5, h5, hx⟩ := h
    obtain rfl := Option.some.inj hx
    exact (.cons (gStr h1) (.cons (gInt h2) (.cons (gInt h3) (.cons (gInt h4) (.cons (gInt h5) .nil)))))
  · cases h
theorem flt_e120 (x : G_Busy) : (enc_e120 x).all D.plain = true := rfl
theorem dok_e142 {U : Ty A} {cs : List (D A)} {x : G_Parts} (h : dec_e142 cs = some x) : OkL U cs (enc_e142 x) := by
  unfold dec_e142 at h
  split at h
  · simp only [Option.bind_eq_some_iff] at h
    obtain ⟨b1, h1, b2, h2, b3, h3, b4, h4, b5, h5, hx⟩ := h
    obtain rfl := Option.some.inj hx
    exact (.cons (gStr h1) (.cons (gStr h2) (.cons (gStr h3) (.cons (gInt h4) (.cons (gStr h5) .nil)))))
  · cases h
theorem flt_e142 (x : G_Parts) : (enc_e142 x).all D.plain = true := rfl
def TD : Ty A := T.day
theorem decOk {U : Ty A} : ∀ k cs x, decE k cs = some x → OkL U cs (encE k x) := by
  intro k cs x h
  cases k
  case e3 => exact dok_e3 h
  case e9 => exact dok_e9 h
  case e25 => exact dok_e25 h
  case e35 => exact dok_e35 h
  case e62 => exact dok_e62 h
  case e77 => exact dok_e77 h
  case e80 => exact dok_e80 h
  case e113 => exact dok_e113 h
  case e115 => exact dok_e115 h
  case e120 => exact dok_e120 h
  case e142 => exact dok_e142 h
  case no => cases h
theorem tyOkD (P : Program) : TyOk P TD := ⟨fun e x => lenE (el e) x, fun e => posE (el e), fun e cs x h => by
  obtain ⟨h1, h2⟩ := decOk (U := TD) (el e) cs x h
  exact ⟨h1.trans (lenE (el e) x), h2⟩⟩
theorem tyOk (P : Program) : TyOk P T := ⟨fun e x => lenE (el e) x, fun e => posE (el e), fun e cs x h => by
  obtain ⟨h1, h2⟩ := decOk (el e) cs x h
  exact ⟨h1.trans (lenE (el e) x), h2⟩⟩
def flatE : El → Bool
  | .e3 => true
  | .e9 => true
  | .e25 => false
  | .e35 => true
  | .e62 => false
  | .e77 => true
  | .e80 => true
  | .e113 => true
  | .e115 => false
  | .e120 => true
  | .e142 => true
  | .no => false
def flatT (e : Nat) : Bool := flatE (el e)
theorem flatEOk : ∀ k, flatE k = true → ∀ x d, d ∈ encE k x → D.plain d = true := by
  intro k h x d hd
  cases k
  case e3 => exact List.all_eq_true.1 (flt_e3 x) d hd
  case e9 => exact List.all_eq_true.1 (flt_e9 x) d hd
  case e25 => cases h
  case e35 => exact List.all_eq_true.1 (flt_e35 x) d hd
  case e62 => cases h
  case e77 => exact List.all_eq_true.1 (flt_e77 x) d hd
  case e80 => exact List.all_eq_true.1 (flt_e80 x) d hd
  case e113 => exact List.all_eq_true.1 (flt_e113 x) d hd
  case e115 => cases h
  case e120 => exact List.all_eq_true.1 (flt_e120 x) d hd
  case e142 => exact List.all_eq_true.1 (flt_e142 x) d hd
  case no => cases h
def eq_G_Pair (x y : G_Pair) : Bool := (x.f_Name == y.f_Name && (x.f_Value == y.f_Value && true))
def eq_G_Row (x y : G_Row) : Bool := (x.f_From == y.f_From && (x.f_To == y.f_To && true))
def keyT (k : Nat) : Bool := false
theorem keysOk : ∀ k, keyT k = true → KeyOk Tryz.prog T k ∧ ∃ kd, Tryz.prog.underlying k = some kd := fun k h => by cases h
theorem flatOk : FlatOk T flatT := fun e h x d hd => flatEOk (el e) h x d hd
def spT : List (Nat × Sp A) := []
theorem spAll : SpAll Tryz.prog T spT := .nil
theorem std : Std Tryz.prog T keyT flatT (fun f => spT.lookup f) := ⟨tyOk Tryz.prog, flatOk, keysOk, spAll.ok, by kernel_rfl⟩
abbrev Ok (f : Nat) (S : Spec A) : Prop := OkF Tryz.prog T f S
theorem stdD : Std Tryz.prog TD keyT flatT (fun _ => none) := ⟨tyOkD Tryz.prog, fun e h x d hd => flatEOk (el e) h x d hd, keysOk, fun _ _ h => (by cases h), by kernel_rfl⟩
abbrev OkD (f : Nat) (S : Spec A) : Prop := OkF Tryz.prog TD f S
noncomputable def mkE (C : List (Nat × Spec A)) (tg : List (Nat × List Nat)) (lh xh : List (Nat × Hint)) (cl : List (Nat × Piece A)) (sh xs : List (Nat × Hint)) (cs : List (Nat × Piece A)) (md : List (Nat × Nat)) (pin : List Nat) : Env A :=
  { P := Tryz.prog, T := T, C := fun f => C.lookup f, tg := fun d => (tg.lookup d).getD [], seqH := fun i => sh.lookup i, loopH := fun i => lh.lookup i, exitH := fun i => xh.lookup i, exitS := fun i => xs.lookup i, cutS := fun i => cs.lookup i, cutL := fun i => cl.lookup i, mode := fun f i => md.contains (f, i), sp := fun f => spT.lookup f, keyed := keyT, flat := flatT, pin := pin }
noncomputable def mkED (C : List (Nat × Spec A)) (tg : List (Nat × List Nat)) (lh xh : List (Nat × Hint)) (cl : List (Nat × Piece A)) (sh xs : List (Nat × Hint)) (cs : List (Nat × Piece A)) (md : List (Nat × Nat)) (pin : List Nat) : Env A :=
  { P := Tryz.prog, T := TD, C := fun f => C.lookup f, tg := fun d => (tg.lookup d).getD [], seqH := fun i => sh.lookup i, loopH := fun i => lh.lookup i, exitH := fun i => xh.lookup i, exitS := fun i => xs.lookup i, cutS := fun i => cs.lookup i, cutL := fun i => cl.lookup i, mode := fun f i => md.contains (f, i), keyed := keyT, flat := flatT, pin := pin }
end Go.Am
