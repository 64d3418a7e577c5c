/- The functions of the program as Lean functions, each shown to be what the code computes, part 0. No condition: lemmas for the claim. -/
import Derived.Test.YtoajjnhmofegcaaGreatDoorAmPrint
import Derived.Test.YtoajjnhmofegcaaGreatDoorAmBld
import Derived.Test.YtoajjnhmofegcaaGreatDoorFSh
import Derived.Test.YtoajjnhmofegcaaGreatDoorProg
import Derived.KernelRfl
set_option linter.unusedVariables false
set_option maxRecDepth 100000
namespace Go.Am
open Go Go.Proofs
structure G_Stream where
 f_L : List Int
 f_at : Int
 deriving DecidableEq
structure G_Spot where
 f_At : Int
 f_Hertz : Int
 f_Call : List UInt8
 f_By : List UInt8
 deriving DecidableEq
structure G_Window where
 f_From : Int
 f_To : Int
 deriving DecidableEq
structure G_Segment where
 f_Class : List UInt8
 f_Low : Int
 f_High : Int
 f_Modes : List Int
 f_Time : G_Window
 deriving DecidableEq
structure G_Parts where
 f_Base : List UInt8
 f_Prefix : List UInt8
 f_Suffix : List UInt8
 f_Kind : Int
 f_Added : List UInt8
 deriving DecidableEq
structure G_Row where
 f_From : Int
 f_To : Int
 deriving DecidableEq
inductive El where
 | e3 | e9 | e25 | e61 | e133 | e135 | e162 | e173 | no
def el : Nat → El
 | 3 => .e3
 | 9 => .e9
 | 25 => .e25
 | 61 => .e61
 | 133 => .e133
 | 135 => .e135
 | 162 => .e162
 | 173 => .e173
 | _ => .no
def AE : El → Type
 | .e3 => Int
 | .e9 => List UInt8
 | .e25 => G_Stream
 | .e61 => G_Spot
 | .e133 => G_Window
 | .e135 => G_Segment
 | .e162 => G_Parts
 | .e173 => G_Row
 | .no => Unit
abbrev A (e : Nat) : Type := AE (el e)
def sizeE : El → Nat
 | .e3 => 1
 | .e9 => 1
 | .e25 => 2
 | .e61 => 4
 | .e133 => 2
 | .e135 => 6
 | .e162 => 5
 | .e173 => 2
 | .no => 1
def enc_e3 (x : Int) : List (D A) := [.int .i64 x]
def dec_e3 (cs : List (D A)) : Option (Int) := match cs with | [c0] => (dInt .i64 c0).bind fun b1 => some b1 | _ => none
def enc_e9 (x : List UInt8) : List (D A) := [.str x]
def dec_e9 (cs : List (D A)) : Option (List UInt8) := match cs with | [c0] => (dStr c0).bind fun b1 => some b1 | _ => none
def enc_e25 (x : G_Stream) : List (D A) := [.sl 3 x.f_L, .int .i64 x.f_at]
def dec_e25 (cs : List (D A)) : Option (G_Stream) := match cs with | [c0, c1] => (dSl 3 c0).bind fun b1 => (dInt .i64 c1).bind fun b2 => some ⟨b1, b2⟩ | _ => none
def enc_e61 (x : G_Spot) : List (D A) := [.int .i64 x.f_At, .int .i64 x.f_Hertz, .str x.f_Call, .str x.f_By]
def dec_e61 (cs : List (D A)) : Option (G_Spot) := match cs with | [c0, c1, c2, c3] => (dInt .i64 c0).bind fun b1 => (dInt .i64 c1).bind fun b2 => (dStr c2).bind fun b3 => (dStr c3).bind fun b4 => some ⟨b1, b2, b3, b4⟩ | _ => none
def enc_e133 (x : G_Window) : List (D A) := [.int .i64 x.f_From, .int .i64 x.f_To]
def dec_e133 (cs : List (D A)) : Option (G_Window) := match cs with | [c0, c1] => (dInt .i64 c0).bind fun b1 => (dInt .i64 c1).bind fun b2 => some ⟨b1, b2⟩ | _ => none
def enc_e135 (x : G_Segment) : List (D A) := [.str x.f_Class, .int .i64 x.f_Low, .int .i64 x.f_High, .sl 3 x.f_Modes, .int .i64 x.f_Time.f_From, .int .i64 x.f_Time.f_To]
def dec_e135 (cs : List (D A)) : Option (G_Segment) := match cs with | [c0, c1, c2, c3, c4, c5] => (dStr c0).bind fun b1 => (dInt .i64 c1).bind fun b2 => (dInt .i64 c2).bind fun b3 => (dSl 3 c3).bind fun b4 => (dInt .i64 c4).bind fun b5 => (dInt .i64 c5).bind fun b6 => some ⟨b1, b2, b3, b4, ⟨b5, b6⟩⟩ | _ => none
def enc_e162 (x : G_Parts) : List (D A) := [.str x.f_Base, .str x.f_Prefix, .str x.f_Suffix, .int .i64 x.f_Kind, .str x.f_Added]
def dec_e162 (cs : List (D A)) : Option (G_Parts) := match cs with | [c0, c1, c2, c3, c4] => (dStr c0).bind fun b1 => (dStr c1).bind fun b2 => (dStr c2).bind fun b3 => (dInt .i64 c3).bind fun b4 => (dStr c4).bind fun b5 => some ⟨b1, b2, b3, b4, b5⟩ | _ => none
def enc_e173 (x : G_Row) : List (D A) := [.int .i64 x.f_From, .int .i64 x.f_To]
def dec_e173 (cs : List (D A)) : Option (G_Row) := match cs with | [c0, c1] => (dInt .i64 c0).bind fun b1 => (dInt .i64 c1).bind fun b2 => some ⟨b1, b2⟩ | _ => none
def encE : (k : El) → AE k → List (D A)
 | .e3, x => enc_e3 x
 | .e9, x => enc_e9 x
 | .e25, x => enc_e25 x
 | .e61, x => enc_e61 x
 | .e133, x => enc_e133 x
 | .e135, x => enc_e135 x
 | .e162, x => enc_e162 x
 | .e173, x => enc_e173 x
 | .no, _ => [.nilif]
def decE : (k : El) → List (D A) → Option (AE k)
 | .e3, cs => dec_e3 cs
 | .e9, cs => dec_e9 cs
 | .e25, cs => dec_e25 cs
 | .e61, cs => dec_e61 cs
 | .e133, cs => dec_e133 cs
 | .e135, cs => dec_e135 cs
 | .e162, cs => dec_e162 cs
 | .e173, cs => dec_e173 cs
 | .no, _ => none
def aggE : El → Bool
 | .e3 => false
 | .e9 => false
 | .e25 => true
 | .e61 => true
 | .e133 => true
 | .e135 => true
 | .e162 => true
 | .e173 => true
 | .no => false
theorem tabg : Tryz.prog.globalNamed "internal/strconv.uint64pow10" = some 1 := by kernel_rfl
def T : Ty A where
 size := fun e => sizeE (el e)
 enc := fun e x => encE (el e) x
 dec := fun e cs => decE (el e) cs
 agg := fun e => aggE (el e)
 bld := some (83, 5)
 fix := [1]
 amb := fun w => Lib.TabIs Tryz.prog w "internal/strconv.uint64pow10" .u64 Lib.pow10Tab
 ambOk := tab_amb tabg
theorem lenE : ∀ k x, (encE k x).length = sizeE k := by intro k x; cases k <;> rfl
theorem posE : ∀ k, 0 < sizeE k := by intro k; cases k <;> decide
theorem dok_e3 {U : Ty A} {cs : List (D A)} {x : Int} (h : dec_e3 cs = some x) : OkL U cs (enc_e3 x) := by
 unfold dec_e3 at h
 split at h
 ·simp only [Option.bind_eq_some_iff] at h
  obtain ⟨b1, h1, hx⟩ := h
  obtain rfl := Option.some.inj hx
  exact (.cons (gInt h1) .nil)
 ·cases h
theorem flt_e3 (x : Int) : (enc_e3 x).all D.plain = true := rfl
theorem dok_e9 {U : Ty A} {cs : List (D A)} {x : List UInt8} (h : dec_e9 cs = some x) : OkL U cs (enc_e9 x) := by
 unfold dec_e9 at h
 split at h
 ·simp only [Option.bind_eq_some_iff] at h
  obtain ⟨b1, h1, hx⟩ := h
  obtain rfl := Option.some.inj hx
  exact (.cons (gStr h1) .nil)
 ·cases h
theorem flt_e9 (x : List UInt8) : (enc_e9 x).all D.plain = true := rfl
theorem dok_e25 {U : Ty A} {cs : List (D A)} {x : G_Stream} (h : dec_e25 cs = some x) : OkL U cs (enc_e25 x) := by
 unfold dec_e25 at h
 split at h
 ·simp only [Option.bind_eq_some_iff] at h
  obtain ⟨b1, h1, b2, h2, hx⟩ := h
  obtain rfl := Option.some.inj hx
  exact (.cons (gSl h1) (.cons (gInt h2) .nil))
 ·cases h
theorem dok_e61 {U : Ty A} {cs : List (D A)} {x : G_Spot} (h : dec_e61 cs = some x) : OkL U cs (enc_e61 x) := by
 unfold dec_e61 at h
 split at h
 ·simp only [Option.bind_eq_some_iff] at h
  obtain ⟨b1, h1, b2, h2, b3, h3, b4, h4, hx⟩ := h
  obtain rfl := Option.some.inj hx
  exact (.cons (gInt h1) (.cons (gInt h2) (.cons (gStr h3) (.cons (gStr h4) .nil))))
 ·cases h
theorem flt_e61 (x : G_Spot) : (enc_e61 x).all D.plain = true := rfl
theorem dok_e133 {U : Ty A} {cs : List (D A)} {x : G_Window} (h : dec_e133 cs = some x) : OkL U cs (enc_e133 x) := by
 unfold dec_e133 at h
 split at h
 ·simp only [Option.bind_eq_some_iff] at h
  obtain ⟨b1, h1, b2, h2, hx⟩ := h
  obtain rfl := Option.some.inj hx
  exact (.cons (gInt h1) (.cons (gInt h2) .nil))
 ·cases h
theorem flt_e133 (x : G_Window) : (enc_e133 x).all D.plain = true := rfl
theorem dok_e135 {U : Ty A} {cs : List (D A)} {x : G_Segment} (h : dec_e135 cs = some x) : OkL U cs (enc_e135 x) := by
 unfold dec_e135 at h
 split at h
 ·simp only [Option.bind_eq_some_iff] at h
  obtain ⟨b1, h1, b2, h2, b3, h3, b4, h4, b5, h5, b6, h6, hx⟩ := h
  obtain rfl := Option.some.inj hx
  exact (.cons (gStr h1) (.cons (gInt h2) (.cons (gInt h3) (.cons (gSl h4) (.cons (gInt h5) (.cons (gInt h6) .nil))))))
 ·cases h
theorem dok_e162 {U : Ty A} {cs : List (D A)} {x : G_Parts} (h : dec_e162 cs = some x) : OkL U cs (enc_e162 x) := by
 unfold dec_e162 at h
 split at h
 ·simp only [Option.bind_eq_some_iff] at h
  obtain ⟨b1, h1, b2, h2, b3, h3, b4, h4, b5, h5, hx⟩ := h
  obtain rfl := Option.some.inj hx
  exact (.cons (gStr h1) (.cons (gStr h2) (.cons (gStr h3) (.cons (gInt h4) (.cons (gStr h5) .nil)))))
 ·cases h
theorem flt_e162 (x : G_Parts) : (enc_e162 x).all D.plain = true := rfl
theorem dok_e173 {U : Ty A} {cs : List (D A)} {x : G_Row} (h : dec_e173 cs = some x) : OkL U cs (enc_e173 x) := by
 unfold dec_e173 at h
 split at h
 ·simp only [Option.bind_eq_some_iff] at h
  obtain ⟨b1, h1, b2, h2, hx⟩ := h
  obtain rfl := Option.some.inj hx
  exact (.cons (gInt h1) (.cons (gInt h2) .nil))
 ·cases h
theorem flt_e173 (x : G_Row) : (enc_e173 x).all D.plain = true := rfl
def TD : Ty A := T.day
theorem decOk {U : Ty A} : ∀ k cs x, decE k cs = some x → OkL U cs (encE k x) := by
 intro k cs x h
 cases k
 case e3 => exact dok_e3 h
 case e9 => exact dok_e9 h
 case e25 => exact dok_e25 h
 case e61 => exact dok_e61 h
 case e133 => exact dok_e133 h
 case e135 => exact dok_e135 h
 case e162 => exact dok_e162 h
 case e173 => exact dok_e173 h
 case no => cases h
theorem tyOkD (P : Program) : TyOk P TD := ⟨fun e x => lenE (el e) x, fun e => posE (el e), fun e cs x h => by
 obtain ⟨h1, h2⟩ := decOk (U := TD) (el e) cs x h
 exact ⟨h1.trans (lenE (el e) x), h2⟩⟩
theorem tyOk (P : Program) : TyOk P T := ⟨fun e x => lenE (el e) x, fun e => posE (el e), fun e cs x h => by
 obtain ⟨h1, h2⟩ := decOk (el e) cs x h
 exact ⟨h1.trans (lenE (el e) x), h2⟩⟩
def flatE : El → Bool
 | .e3 => true
 | .e9 => true
 | .e25 => false
 | .e61 => true
 | .e133 => true
 | .e135 => false
 | .e162 => true
 | .e173 => true
 | .no => false
def flatT (e : Nat) : Bool := flatE (el e)
theorem flatEOk : ∀ k, flatE k = true → ∀ x d, d ∈ encE k x → D.plain d = true := by
 intro k h x d hd
 cases k
 case e3 => exact List.all_eq_true.1 (flt_e3 x) d hd
 case e9 => exact List.all_eq_true.1 (flt_e9 x) d hd
 case e25 => cases h
 case e61 => exact List.all_eq_true.1 (flt_e61 x) d hd
 case e133 => exact List.all_eq_true.1 (flt_e133 x) d hd
 case e135 => cases h
 case e162 => exact List.all_eq_true.1 (flt_e162 x) d hd
 case e173 => exact List.all_eq_true.1 (flt_e173 x) d hd
 case no => cases h
def eq_G_Spot (x y : G_Spot) : Bool := (x.f_At == y.f_At && (x.f_Hertz == y.f_Hertz && (x.f_Call == y.f_Call && (x.f_By == y.f_By && true))))
def keyT (k : Nat) : Bool := false
theorem keysOk : ∀ k, keyT k = true → KeyOk Tryz.prog T k ∧ ∃ kd, Tryz.prog.underlying k = some kd := fun k h => by cases h
theorem flatOk : FlatOk T flatT := fun e h x d hd => flatEOk (el e) h x d hd
theorem spo_57 : SpOk Tryz.prog T 57 .bst := spBst (ρ := Tryz.lays169_ren) Tryz.lays169 Tryz.bx169 (by kernel_rfl) rfl (by kernel_rfl) (enters_of (fn := Tryz.f57) Tryz.func57 (by kernel_rfl) (by kernel_rfl))
theorem spo_56 : SpOk Tryz.prog T 56 .bln := spBln (ρ := Tryz.lays170_ren) Tryz.lays170 Tryz.bx170 (by kernel_rfl) (by kernel_rfl) (enters_of (fn := Tryz.f56) Tryz.func56 (by kernel_rfl) (by kernel_rfl))
theorem spo_54 : SpOk Tryz.prog T 54 .bwr := spBwr (ρ := Tryz.lays156_ren) { Tryz.lays156 with } Tryz.bx156 (by kernel_rfl) rfl (by kernel_rfl) (enters_of (fn := Tryz.f54) Tryz.func54 (by kernel_rfl) (by kernel_rfl))
def spT : List (Nat × Sp A) := [(54, .bwr), (56, .bln), (57, .bst)]
theorem spAll : SpAll Tryz.prog T spT := .cons spo_54 (.cons spo_56 (.cons spo_57 (.nil)))
theorem std : Std Tryz.prog T keyT flatT (fun f => spT.lookup f) := ⟨tyOk Tryz.prog, flatOk, keysOk, spAll.ok, by kernel_rfl⟩
abbrev Ok (f : Nat) (S : Spec A) : Prop := OkF Tryz.prog T f S
theorem stdD : Std Tryz.prog TD keyT flatT (fun _ => none) := ⟨tyOkD Tryz.prog, fun e h x d hd => flatEOk (el e) h x d hd, keysOk, fun _ _ h => (by cases h), by kernel_rfl⟩
abbrev OkD (f : Nat) (S : Spec A) : Prop := OkF Tryz.prog TD f S
noncomputable def mkE (C : List (Nat × Spec A)) (tg : List (Nat × List Nat)) (lh xh : List (Nat × Hint)) (cl : List (Nat × Piece A)) (sh xs : List (Nat × Hint)) (cs : List (Nat × Piece A)) (md : List (Nat × Nat)) (pin : List Nat) : Env A :=
 { P := Tryz.prog, T := T, C := fun f => C.lookup f, tg := fun d => (tg.lookup d).getD [], seqH := fun i => sh.lookup i, loopH := fun i => lh.lookup i, exitH := fun i => xh.lookup i, exitS := fun i => xs.lookup i, cutS := fun i => cs.lookup i, cutL := fun i => cl.lookup i, mode := fun f i => md.contains (f, i), sp := fun f => spT.lookup f, keyed := keyT, flat := flatT, pin := pin }
noncomputable def mkED (C : List (Nat × Spec A)) (tg : List (Nat × List Nat)) (lh xh : List (Nat × Hint)) (cl : List (Nat × Piece A)) (sh xs : List (Nat × Hint)) (cs : List (Nat × Piece A)) (md : List (Nat × Nat)) (pin : List Nat) : Env A :=
 { P := Tryz.prog, T := TD, C := fun f => C.lookup f, tg := fun d => (tg.lookup d).getD [], seqH := fun i => sh.lookup i, loopH := fun i => lh.lookup i, exitH := fun i => xh.lookup i, exitS := fun i => xs.lookup i, cutS := fun i => cs.lookup i, cutL := fun i => cl.lookup i, mode := fun f i => md.contains (f, i), keyed := keyT, flat := flatT, pin := pin }
end Go.Am
