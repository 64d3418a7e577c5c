/- The functions of the program as Lean functions, each shown to be what the code computes, part 0. No condition: lemmas for the claim. -/
import Derived.Test.YtecelackdggokaaGreatDoorAmPrint
import Derived.Test.YtecelackdggokaaGreatDoorProg
import Derived.KernelRfl
set_option linter.unusedVariables false
set_option maxRecDepth 100000
namespace Go.Am
open Go Go.Proofs
structure G_Stream where
  f_L : List Int
  f_at : Int
  deriving DecidableEq
structure G_Row where
  f_From : Int
  f_To : Int
  deriving DecidableEq
structure G_Window where
  f_From : Int
  f_To : Int
  deriving DecidableEq
structure G_Segment where
  f_Class : List UInt8
  f_Low : Int
  f_High : Int
  f_Modes : List Int
  f_Time : G_Window
  deriving DecidableEq
inductive El where
  | e3 | e9 | e25 | e38 | e89 | e98 | e170 | e172 | no
def el : Nat → El
  | 3 => .e3
  | 9 => .e9
  | 25 => .e25
  | 38 => .e38
  | 89 => .e89
  | 98 => .e98
  | 170 => .e170
  | 172 => .e172
  | _ => .no
def AE : El → Type
  | .e3 => Int
  | .e9 => List UInt8
  | .e25 => G_Stream
  | .e38 => Int
  | .e89 => List G_Row
  | .e98 => G_Row
  | .e170 => G_Window
  | .e172 => G_Segment
  | .no => Unit
abbrev A (e : Nat) : Type := AE (el e)
def sizeE : El → Nat
  | .e3 => 1
  | .e9 => 1
  | .e25 => 2
  | .e38 => 1
  | .e89 => 1
  | .e98 => 2
  | .e170 => 2
  | .e172 => 6
  | .no => 1
def enc_e3 (x : Int) : List (D A) := [.int .i64 x]
def dec_e3 (cs : List (D A)) : Option (Int) := match cs with | [c0] => (dInt .i64 c0).bind fun b1 => some b1 | _ => none
def enc_e9 (x : List UInt8) : List (D A) := [.str x]
def dec_e9 (cs : List (D A)) : Option (List UInt8) := match cs with | [c0] => (dStr c0).bind fun b1 => some b1 | _ => none
def enc_e25 (x : G_Stream) : List (D A) := [.sl 3 x.f_L, .int .i64 x.f_at]
def dec_e25 (cs : List (D A)) : Option (G_Stream) := match cs with | [c0, c1] => (dSl 3 c0).bind fun b1 => (dInt .i64 c1).bind fun b2 => some ⟨b1, b2⟩ | _ => none
def enc_e38 (x : Int) : List (D A) := [.int .i64 x]
def dec_e38 (cs : List (D A)) : Option (Int) := match cs with | [c0] => (dInt .i64 c0).bind fun b1 => some b1 | _ => none
def enc_e89 (x : List G_Row) : List (D A) := [.sl 98 x]
def dec_e89 (cs : List (D A)) : Option (List G_Row) := match cs with | [c0] => (dSl 98 c0).bind fun b1 => some b1 | _ => none
def enc_e98 (x : G_Row) : List (D A) := [.int .i64 x.f_From, .int .i64 x.f_To]
def dec_e98 (cs : List (D A)) : Option (G_Row) := match cs with | [c0, c1] => (dInt .i64 c0).bind fun b1 => (dInt .i64 c1).bind fun b2 => some ⟨b1, b2⟩ | _ => none
def enc_e170 (x : G_Window) : List (D A) := [.int .i64 x.f_From, .int .i64 x.f_To]
def dec_e170 (cs : List (D A)) : Option (G_Window) := match cs with | [c0, c1] => (dInt .i64 c0).bind fun b1 => (dInt .i64 c1).bind fun b2 => some ⟨b1, b2⟩ | _ => none
def enc_e172 (x : G_Segment) : List (D A) := [.str x.f_Class, .int .i64 x.f_Low, .int .i64 x.f_High, .sl 3 x.f_Modes, .int .i64 x.f_Time.f_From, .int .i64 x.f_Time.f_To]
def dec_e172 (cs : List (D A)) : Option (G_Segment) := match cs with | [c0, c1, c2, c3, c4, c5] => (dStr c0).bind fun b1 => (dInt .i64 c1).bind fun b2 => (dInt .i64 c2).bind fun b3 => (dSl 3 c3).bind fun b4 => (dInt .i64 c4).bind fun b5 => (dInt .i64 c5).bind fun b6 => some ⟨b1, b2, b3, b4, ⟨b5, b6⟩⟩ | _ => none
def encE : (k : El) → AE k → List (D A)
  | .e3, x => enc_e3 x
  | .e9, x => enc_e9 x
  | .e25, x => enc_e25 x
  | .e38, x => enc_e38 x
  | .e89, x => enc_e89 x
  | .e98, x => enc_e98 x
  | .e170, x => enc_e170 x
  | .e172, x => enc_e172 x
  | .no, _ => [.nilif]
def decE : (k : El) → List (D A) → Option (AE k)
  | .e3, cs => dec_e3 cs
  | .e9, cs => dec_e9 cs
  | .e25, cs => dec_e25 cs
  | .e38, cs => dec_e38 cs
  | .e89, cs => dec_e89 cs
  | .e98, cs => dec_e98 cs
  | .e170, cs => dec_e170 cs
  | .e172, cs => dec_e172 cs
  | .no, _ => none
def aggE : El → Bool
  | .e3 => false
  | .e9 => false
  | .e25 => true
  | .e38 => false
  | .e89 => false
  | .e98 => true
  | .e170 => true
  | .e172 => true
  | .no => false
def T : Ty A where
  size := fun e => sizeE (el e)
  enc := fun e x => encE (el e) x
  dec := fun e cs => decE (el e) cs
  agg := fun e => aggE (el e)
theorem lenE : ∀ k x, (encE k x).length = sizeE k := by intro k x; cases k <;> rfl
theorem posE : ∀ k, 0 < sizeE k := by intro k; cases k <;> decide
theorem dok_e3 {U : Ty A} {cs : List (D A)} {x : Int} (h : dec_e3 cs = some x) : OkL U cs (enc_e3 x) := by
  unfold dec_e3 at h
  split at h
  · simp only [Option.bind_eq_some_iff] at h
    obtain ⟨b1, h1, hx⟩ := h
    obtain rfl := Option.some.inj hx
    exact (.cons (gInt h1) .nil)
  · cases h
theorem flt_e3 (x : Int) : (enc_e3 x).all D.plain = true := rfl
theorem dok_e9 {U : Ty A} {cs : List (D A)} {x : List UInt8} (h : dec_e9 cs = some x) : OkL U cs (enc_e9 x) := by
  unfold dec_e9 at h
  split at h
  · simp only [Option.bind_eq_some_iff] at h
    obtain ⟨b1, h1, hx⟩ := h
    obtain rfl := Option.some.inj hx
    exact (.cons (gStr h1) .nil)
  · cases h
theorem flt_e9 (x : List UInt8) : (enc_e9 x).all D.plain = true := rfl
theorem dok_e25 {U : Ty A} {cs : List (D A)} {x : G_Stream} (h : dec_e25 cs = some x) : OkL U cs (enc_e25 x) := by
  unfold dec_e25 at h
  split at h
  · simp only [Option.bind_eq_some_iff] at h
    obtain ⟨b1, h1, b2, h2, hx⟩ := h
    obtain rfl := Option.some.inj hx
    exact (.cons (gSl h1) (.cons (gInt h2) .nil))
  · cases h
theorem dok_e38 {U : Ty A} {cs : List (D A)} {x : Int} (h : dec_e38 cs = some x) : OkL U cs (enc_e38 x) := by
  unfold dec_e38 at h
  split at h
  · simp only [Option.bind_eq_some_iff] at h
    obtain ⟨b1, h1, hx⟩ := h
    obtain rfl := Option.some.inj hx
    exact (.cons (gInt h1) .nil)
  · cases h
theorem flt_e38 (x : Int) : (enc_e38 x).all D.plain = true := rfl
theorem dok_e89 {U : Ty A} {cs : List (D A)} {x : List G_Row} (h : dec_e89 cs = some x) : OkL U cs (enc_e89 x) := by
  unfold dec_e89 at h
  split at h
  · simp only [Option.bind_eq_some_iff] at h
    obtain ⟨b1, h1, hx⟩ := h
    obtain rfl := Option.some.inj hx
    exact (.cons (gSl h1) .nil)
  · cases h
theorem dok_e98 {U : Ty A} {cs : List (D A)} {x : G_Row} (h : dec_e98 cs = some x) : OkL U cs (enc_e98 x) := by
  unfold dec_e98 at h
  split at h
  · simp only [Option.bind_eq_some_iff] at h
    obtain ⟨b1, h1, b2, h2, hx⟩ := h
    obtain rfl := Option.some.inj hx
    exact (.cons (gInt h1) (.cons (gInt h2) .nil))
  · cases h
theorem flt_e98 (x : G_Row) : (enc_e98 x).all D.plain = true := rfl
theorem dok_e170 {U : Ty A} {cs : List (D A)} {x : G_Window} (h : dec_e170 cs = some x) : OkL U cs (enc_e170 x) := by
  unfold dec_e170 at h
  split at h
  · simp only [Option.bind_eq_some_iff] at h
    obtain ⟨b1, h1, b2, h2, hx⟩ := h
    obtain rfl := Option.some.inj hx
    exact (.cons (gInt h1) (.cons (gInt h2) .nil))
  · cases h
theorem flt_e170 (x : G_Window) : (enc_e170 x).all D.plain = true := rfl
theorem dok_e172 {U : Ty A} {cs : List (D A)} {x : G_Segment} (h : dec_e172 cs = some x) : OkL U cs (enc_e172 x) := by
  unfold dec_e172 at h
  split at h
  · simp only [Option.bind_eq_some_iff] at h
    obtain ⟨b1, h1, b2, h2, b3, h3, b4, h4, b5, h5, b6, h6, hx⟩ := h
    obtain rfl := Option.some.inj hx
    exact (.cons (gStr h1) (.cons (gInt h2) (.cons (gInt h3) (.cons (gSl h4) (.cons (gInt h5) (.cons (gInt h6) .nil))))))
  · cases h
def TD : Ty A := { T with dr := true }
theorem decOk {U : Ty A} : ∀ k cs x, decE k cs = some x → OkL U cs (encE k x) := by
  intro k cs x h
  cases k
  case e3 => exact dok_e3 h
  case e9 => exact dok_e9 h
  case e25 => exact dok_e25 h
  case e38 => exact dok_e38 h
  case e89 => exact dok_e89 h
  case e98 => exact dok_e98 h
  case e170 => exact dok_e170 h
  case e172 => exact dok_e172 h
  case no => cases h
theorem tyOkD (P : Program) : TyOk P TD := ⟨fun e x => lenE (el e) x, fun e => posE (el e), fun e cs x h => by
  obtain ⟨h1, h2⟩ := decOk (U := TD) (el e) cs x h
  exact ⟨h1.trans (lenE (el e) x), h2⟩⟩
theorem tyOk (P : Program) : TyOk P T := ⟨fun e x => lenE (el e) x, fun e => posE (el e), fun e cs x h => by
  obtain ⟨h1, h2⟩ := decOk (el e) cs x h
  exact ⟨h1.trans (lenE (el e) x), h2⟩⟩
def flatE : El → Bool
  | .e3 => true
  | .e9 => true
  | .e25 => false
  | .e38 => true
  | .e89 => false
  | .e98 => true
  | .e170 => true
  | .e172 => false
  | .no => false
def flatT (e : Nat) : Bool := flatE (el e)
theorem flatEOk : ∀ k, flatE k = true → ∀ x d, d ∈ encE k x → D.plain d = true := by
  intro k h x d hd
  cases k
  case e3 => exact List.all_eq_true.1 (flt_e3 x) d hd
  case e9 => exact List.all_eq_true.1 (flt_e9 x) d hd
  case e25 => cases h
  case e38 => exact List.all_eq_true.1 (flt_e38 x) d hd
  case e89 => cases h
  case e98 => exact List.all_eq_true.1 (flt_e98 x) d hd
  case e170 => exact List.all_eq_true.1 (flt_e170 x) d hd
  case e172 => cases h
  case no => cases h
def eq_G_Row (x y : G_Row) : Bool := (x.f_From == y.f_From && (x.f_To == y.f_To && true))
def keyT (k : Nat) : Bool := false
theorem keysOk : ∀ k, keyT k = true → KeyOk Tryz.prog T k ∧ ∃ kd, Tryz.prog.underlying k = some kd := fun k h => by cases h
theorem flatOk : FlatOk T flatT := fun e h x d hd => flatEOk (el e) h x d hd
theorem std : Std Tryz.prog T keyT flatT := ⟨tyOk Tryz.prog, flatOk, keysOk, by kernel_rfl⟩
abbrev Ok (f : Nat) (S : Spec A) : Prop := OkF Tryz.prog T f S
theorem stdD : Std Tryz.prog TD keyT flatT := ⟨tyOkD Tryz.prog, fun e h x d hd => flatEOk (el e) h x d hd, keysOk, by kernel_rfl⟩
abbrev OkD (f : Nat) (S : Spec A) : Prop := OkF Tryz.prog TD f S
noncomputable def mkE (C : List (Nat × Spec A)) (tg : List (Nat × List Nat)) (lh xh : List (Nat × Hint)) (cl : List (Nat × Piece A)) (sh xs : List (Nat × Hint)) (cs : List (Nat × Piece A)) (md : List (Nat × Nat)) (pin : List Nat) : Env A :=
  { P := Tryz.prog, T := T, C := fun f => C.lookup f, tg := fun d => (tg.lookup d).getD [], seqH := fun i => sh.lookup i, loopH := fun i => lh.lookup i, exitH := fun i => xh.lookup i, exitS := fun i => xs.lookup i, cutS := fun i => cs.lookup i, cutL := fun i => cl.lookup i, mode := fun f i => md.contains (f, i), keyed := keyT, flat := flatT, pin := pin }
noncomputable def mkED (C : List (Nat × Spec A)) (tg : List (Nat × List Nat)) (lh xh : List (Nat × Hint)) (cl : List (Nat × Piece A)) (sh xs : List (Nat × Hint)) (cs : List (Nat × Piece A)) (md : List (Nat × Nat)) (pin : List Nat) : Env A :=
  { P := Tryz.prog, T := TD, C := fun f => C.lookup f, tg := fun d => (tg.lookup d).getD [], seqH := fun i => sh.lookup i, loopH := fun i => lh.lookup i, exitH := fun i => xh.lookup i, exitS := fun i => xs.lookup i, cutS := fun i => cs.lookup i, cutL := fun i => cl.lookup i, mode := fun f i => md.contains (f, i), keyed := keyT, flat := flatT, pin := pin }
end Go.Am
