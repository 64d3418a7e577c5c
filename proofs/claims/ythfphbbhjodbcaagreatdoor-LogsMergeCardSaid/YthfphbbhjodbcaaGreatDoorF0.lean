/- The functions of the program as Lean functions, each shown to be what the code computes, part 0. No condition: lemmas for the claim. -/
import Derived.Test.YthfphbbhjodbcaaGreatDoorAmPrint
import Derived.Test.YthfphbbhjodbcaaGreatDoorProg
import Derived.KernelRfl
set_option linter.unusedVariables false
set_option maxRecDepth 100000
namespace Go.Am
open Go Go.Proofs
structure G_Stream where
  f_L : List Int
  f_at : Int
  deriving DecidableEq
structure G_Contact where
  f_At : Int
  f_Mode : Int
  f_Band : List UInt8
  f_Call : List UInt8
  f_Sent : Int
  f_Heard : Int
  f_Gave : List UInt8
  f_Got : List UInt8
  deriving DecidableEq
structure G_log_worked where
  f_base : List UInt8
  f_band : List UInt8
  f_mode : Int
  deriving DecidableEq
structure G_Parts where
  f_Base : List UInt8
  f_Prefix : List UInt8
  f_Suffix : List UInt8
  f_Kind : Int
  f_Added : List UInt8
  deriving DecidableEq
inductive El where
  | e3 | e4 | e9 | e25 | e26 | e34 | e58 | e92 | e95 | no
def el : Nat → El
  | 3 => .e3
  | 4 => .e4
  | 9 => .e9
  | 25 => .e25
  | 26 => .e26
  | 34 => .e34
  | 58 => .e58
  | 92 => .e92
  | 95 => .e95
  | _ => .no
def AE : El → Type
  | .e3 => Int
  | .e4 => Bool
  | .e9 => List UInt8
  | .e25 => G_Stream
  | .e26 => List G_Contact
  | .e34 => Int
  | .e58 => G_Contact
  | .e92 => G_log_worked
  | .e95 => G_Parts
  | .no => Unit
abbrev A (e : Nat) : Type := AE (el e)
def sizeE : El → Nat
  | .e3 => 1
  | .e4 => 1
  | .e9 => 1
  | .e25 => 2
  | .e26 => 1
  | .e34 => 1
  | .e58 => 8
  | .e92 => 3
  | .e95 => 5
  | .no => 1
def enc_e3 (x : Int) : List (D A) := [.int .i64 x]
def dec_e3 (cs : List (D A)) : Option (Int) := match cs with | [c0] => (dInt .i64 c0).bind fun b1 => some b1 | _ => none
def enc_e4 (x : Bool) : List (D A) := [.bool x]
def dec_e4 (cs : List (D A)) : Option (Bool) := match cs with | [c0] => (dBool c0).bind fun b1 => some b1 | _ => none
def enc_e9 (x : List UInt8) : List (D A) := [.str x]
def dec_e9 (cs : List (D A)) : Option (List UInt8) := match cs with | [c0] => (dStr c0).bind fun b1 => some b1 | _ => none
def enc_e25 (x : G_Stream) : List (D A) := [.sl 3 x.f_L, .int .i64 x.f_at]
def dec_e25 (cs : List (D A)) : Option (G_Stream) := match cs with | [c0, c1] => (dSl 3 c0).bind fun b1 => (dInt .i64 c1).bind fun b2 => some ⟨b1, b2⟩ | _ => none
def enc_e26 (x : List G_Contact) : List (D A) := [.sl 58 x]
def dec_e26 (cs : List (D A)) : Option (List G_Contact) := match cs with | [c0] => (dSl 58 c0).bind fun b1 => some b1 | _ => none
def enc_e34 (x : Int) : List (D A) := [.int .i64 x]
def dec_e34 (cs : List (D A)) : Option (Int) := match cs with | [c0] => (dInt .i64 c0).bind fun b1 => some b1 | _ => none
def enc_e58 (x : G_Contact) : List (D A) := [.int .i64 x.f_At, .int .i64 x.f_Mode, .str x.f_Band, .str x.f_Call, .int .i64 x.f_Sent, .int .i64 x.f_Heard, .str x.f_Gave, .str x.f_Got]
def dec_e58 (cs : List (D A)) : Option (G_Contact) := match cs with | [c0, c1, c2, c3, c4, c5, c6, c7] => (dInt .i64 c0).bind fun b1 => (dInt .i64 c1).bind fun b2 => (dStr c2).bind fun b3 => (dStr c3).bind fun b4 => (dInt .i64 c4).bind fun b5 => (dInt .i64 c5).bind fun b6 => (dStr c6).bind fun b7 => (dStr c7).bind fun b8 => some ⟨b1, b2, b3, b4, b5, b6, b7, b8⟩ | _ => none
def enc_e92 (x : G_log_worked) : List (D A) := [.str x.f_base, .str x.f_band, .int .i64 x.f_mode]
def dec_e92 (cs : List (D A)) : Option (G_log_worked) := match cs with | [c0, c1, c2] => (dStr c0).bind fun b1 => (dStr c1).bind fun b2 => (dInt .i64 c2).bind fun b3 => some ⟨b1, b2, b3⟩ | _ => none
def enc_e95 (x : G_Parts) : List (D A) := [.str x.f_Base, .str x.f_Prefix, .str x.f_Suffix, .int .i64 x.f_Kind, .str x.f_Added]
def dec_e95 (cs : List (D A)) : Option (G_Parts) := match cs with | [c0, c1, c2, c3, c4] => (dStr c0).bind fun b1 => (dStr c1).bind fun b2 => (dStr c2).bind fun b3 => (dInt .i64 c3).bind fun b4 => (dStr c4).bind fun b5 => some ⟨b1, b2, b3, b4, b5⟩ | _ => none
def encE : (k : El) → AE k → List (D A)
  | .e3, x => enc_e3 x
  | .e4, x => enc_e4 x
  | .e9, x => enc_e9 x
  | .e25, x => enc_e25 x
  | .e26, x => enc_e26 x
  | .e34, x => enc_e34 x
  | .e58, x => enc_e58 x
  | .e92, x => enc_e92 x
  | .e95, x => enc_e95 x
  | .no, _ => [.nilif]
def decE : (k : El) → List (D A) → Option (AE k)
  | .e3, cs => dec_e3 cs
  | .e4, cs => dec_e4 cs
  | .e9, cs => dec_e9 cs
  | .e25, cs => dec_e25 cs
  | .e26, cs => dec_e26 cs
  | .e34, cs => dec_e34 cs
  | .e58, cs => dec_e58 cs
  | .e92, cs => dec_e92 cs
  | .e95, cs => dec_e95 cs
  | .no, _ => none
def aggE : El → Bool
  | .e3 => false
  | .e4 => false
  | .e9 => false
  | .e25 => true
  | .e26 => false
  | .e34 => false
  | .e58 => true
  | .e92 => true
  | .e95 => true
  | .no => false
def T : Ty A where
  size := fun e => sizeE (el e)
  enc := fun e x => encE (el e) x
  dec := fun e cs => decE (el e) cs
  agg := fun e => aggE (el e)
theorem lenE : ∀ k x, (encE k x).length = sizeE k := by intro k x; cases k <;> rfl
theorem posE : ∀ k, 0 < sizeE k := by intro k; cases k <;> decide
theorem dok_e3 {cs : List (D A)} {x : Int} (h : dec_e3 cs = some x) : OkL T cs (enc_e3 x) := by
  unfold dec_e3 at h
  split at h
  · simp only [Option.bind_eq_some_iff] at h
    obtain ⟨b1, h1, hx⟩ := h
    obtain rfl := Option.some.inj hx
    exact (.cons (gInt h1) .nil)
  · cases h
theorem flt_e3 (x : Int) : (enc_e3 x).all D.plain = true := rfl
theorem dok_e4 {cs : List (D A)} {x : Bool} (h : dec_e4 cs = some x) : OkL T cs (enc_e4 x) := by
  unfold dec_e4 at h
  split at h
  · simp only [Option.bind_eq_some_iff] at h
    obtain ⟨b1, h1, hx⟩ := h
    obtain rfl := Option.some.inj hx
    exact (.cons (gBool h1) .nil)
  · cases h
theorem flt_e4 (x : Bool) : (enc_e4 x).all D.plain = true := rfl
theorem dok_e9 {cs : List (D A)} {x : List UInt8} (h : dec_e9 cs = some x) : OkL T cs (enc_e9 x) := by
  unfold dec_e9 at h
  split at h
  · simp only [Option.bind_eq_some_iff] at h
    obtain ⟨b1, h1, hx⟩ := h
    obtain rfl := Option.some.inj hx
    exact (.cons (gStr h1) .nil)
  · cases h
theorem flt_e9 (x : List UInt8) : (enc_e9 x).all D.plain = true := rfl
theorem dok_e25 {cs : List (D A)} {x : G_Stream} (h : dec_e25 cs = some x) : OkL T cs (enc_e25 x) := by
  unfold dec_e25 at h
  split at h
  · simp only [Option.bind_eq_some_iff] at h
    obtain ⟨b1, h1, b2, h2, hx⟩ := h
    obtain rfl := Option.some.inj hx
    exact (.cons (gSl h1) (.cons (gInt h2) .nil))
  · cases h
theorem dok_e26 {cs : List (D A)} {x : List G_Contact} (h : dec_e26 cs = some x) : OkL T cs (enc_e26 x) := by
  unfold dec_e26 at h
  split at h
  · simp only [Option.bind_eq_some_iff] at h
    obtain ⟨b1, h1, hx⟩ := h
    obtain rfl := Option.some.inj hx
    exact (.cons (gSl h1) .nil)
  · cases h
theorem dok_e34 {cs : List (D A)} {x : Int} (h : dec_e34 cs = some x) : OkL T cs (enc_e34 x) := by
  unfold dec_e34 at h
  split at h
  · simp only [Option.bind_eq_some_iff] at h
    obtain ⟨b1, h1, hx⟩ := h
    obtain rfl := Option.some.inj hx
    exact (.cons (gInt h1) .nil)
  · cases h
theorem flt_e34 (x : Int) : (enc_e34 x).all D.plain = true := rfl
theorem dok_e58 {cs : List (D A)} {x : G_Contact} (h : dec_e58 cs = some x) : OkL T cs (enc_e58 x) := by
  unfold dec_e58 at h
  split at h
  · simp only [Option.bind_eq_some_iff] at h
    obtain ⟨b1, h1, b2, h2, b3, h3, b4, h4, b5, h5, b6, h6, b7, h7, b8, h8, hx⟩ := h
    obtain rfl := Option.some.inj hx
    exact (.cons (gInt h1) (.cons (gInt h2) (.cons (gStr h3) (.cons (gStr h4) (.cons (gInt h5) (.cons (gInt h6) (.cons (gStr h7) (.cons (gStr h8) .nil))))))))
  · cases h
theorem flt_e58 (x : G_Contact) : (enc_e58 x).all D.plain = true := rfl
theorem dok_e92 {cs : List (D A)} {x : G_log_worked} (h : dec_e92 cs = some x) : OkL T cs (enc_e92 x) := by
  unfold dec_e92 at h
  split at h
  · simp only [Option.bind_eq_some_iff] at h
    obtain ⟨b1, h1, b2, h2, b3, h3, hx⟩ := h
    obtain rfl := Option.some.inj hx
    exact (.cons (gStr h1) (.cons (gStr h2) (.cons (gInt h3) .nil)))
  · cases h
theorem flt_e92 (x : G_log_worked) : (enc_e92 x).all D.plain = true := rfl
theorem dok_e95 {cs : List (D A)} {x : G_Parts} (h : dec_e95 cs = some x) : OkL T cs (enc_e95 x) := by
  unfold dec_e95 at h
  split at h
  · simp only [Option.bind_eq_some_iff] at h
    obtain ⟨b1, h1, b2, h2, b3, h3, b4, h4, b5, h5, hx⟩ := h
    obtain rfl := Option.some.inj hx
    exact (.cons (gStr h1) (.cons (gStr h2) (.cons (gStr h3) (.cons (gInt h4) (.cons (gStr h5) .nil)))))
  · cases h
theorem flt_e95 (x : G_Parts) : (enc_e95 x).all D.plain = true := rfl
theorem decOk : ∀ k cs x, decE k cs = some x → OkL T cs (encE k x) := by
  intro k cs x h
  cases k
  case e3 => exact dok_e3 h
  case e4 => exact dok_e4 h
  case e9 => exact dok_e9 h
  case e25 => exact dok_e25 h
  case e26 => exact dok_e26 h
  case e34 => exact dok_e34 h
  case e58 => exact dok_e58 h
  case e92 => exact dok_e92 h
  case e95 => exact dok_e95 h
  case no => cases h
theorem tyOk (P : Program) : TyOk P T := ⟨fun e x => lenE (el e) x, fun e => posE (el e), fun e cs x h => by
  obtain ⟨h1, h2⟩ := decOk (el e) cs x h
  exact ⟨h1.trans (lenE (el e) x), h2⟩⟩
def flatE : El → Bool
  | .e3 => true
  | .e4 => true
  | .e9 => true
  | .e25 => false
  | .e26 => false
  | .e34 => true
  | .e58 => true
  | .e92 => true
  | .e95 => true
  | .no => false
def flatT (e : Nat) : Bool := flatE (el e)
theorem flatEOk : ∀ k, flatE k = true → ∀ x d, d ∈ encE k x → D.plain d = true := by
  intro k h x d hd
  cases k
  case e3 => exact List.all_eq_true.1 (flt_e3 x) d hd
  case e4 => exact List.all_eq_true.1 (flt_e4 x) d hd
  case e9 => exact List.all_eq_true.1 (flt_e9 x) d hd
  case e25 => cases h
  case e26 => cases h
  case e34 => exact List.all_eq_true.1 (flt_e34 x) d hd
  case e58 => exact List.all_eq_true.1 (flt_e58 x) d hd
  case e92 => exact List.all_eq_true.1 (flt_e92 x) d hd
  case e95 => exact List.all_eq_true.1 (flt_e95 x) d hd
  case no => cases h
def eq_G_Contact (x y : G_Contact) : Bool := (x.f_At == y.f_At && (x.f_Mode == y.f_Mode && (x.f_Band == y.f_Band && (x.f_Call == y.f_Call && (x.f_Sent == y.f_Sent && (x.f_Heard == y.f_Heard && (x.f_Gave == y.f_Gave && (x.f_Got == y.f_Got && true))))))))
def mget_Contact_bool (x : G_Contact) (m : List (G_Contact × Bool)) : Option Bool := getM T 58 4 x m
def mset_Contact_bool (x : G_Contact) (y : Bool) (m : List (G_Contact × Bool)) : List (G_Contact × Bool) := setM T 58 4 x y m
def keq_Contact (x y : G_Contact) : Bool := (x.f_At == y.f_At && (x.f_Mode == y.f_Mode && (x.f_Band == y.f_Band && (x.f_Call == y.f_Call && (x.f_Sent == y.f_Sent && (x.f_Heard == y.f_Heard && (x.f_Gave == y.f_Gave && (x.f_Got == y.f_Got && true))))))))
theorem mget_Contact_bool_nil (x : G_Contact) : mget_Contact_bool x [] = none := by kernel_rfl
theorem mget_Contact_bool_cons (x : G_Contact) (p : G_Contact × Bool) (m : List (G_Contact × Bool)) : mget_Contact_bool x (p :: m) = bif keq_Contact x p.1 then some p.2 else mget_Contact_bool x m := by kernel_rfl
theorem mset_Contact_bool_nil (x : G_Contact) (y : Bool) : mset_Contact_bool x y [] = [(x, y)] := by kernel_rfl
theorem mset_Contact_bool_cons (x : G_Contact) (y : Bool) (p : G_Contact × Bool) (m : List (G_Contact × Bool)) : mset_Contact_bool x y (p :: m) = bif keq_Contact x p.1 then (x, y) :: m else p :: mset_Contact_bool x y m := by kernel_rfl
def mget_log_worked_bool (x : G_log_worked) (m : List (G_log_worked × Bool)) : Option Bool := getM T 92 4 x m
def mset_log_worked_bool (x : G_log_worked) (y : Bool) (m : List (G_log_worked × Bool)) : List (G_log_worked × Bool) := setM T 92 4 x y m
def keq_log_worked (x y : G_log_worked) : Bool := (x.f_base == y.f_base && (x.f_band == y.f_band && (x.f_mode == y.f_mode && true)))
theorem mget_log_worked_bool_nil (x : G_log_worked) : mget_log_worked_bool x [] = none := by kernel_rfl
theorem mget_log_worked_bool_cons (x : G_log_worked) (p : G_log_worked × Bool) (m : List (G_log_worked × Bool)) : mget_log_worked_bool x (p :: m) = bif keq_log_worked x p.1 then some p.2 else mget_log_worked_bool x m := by kernel_rfl
theorem mset_log_worked_bool_nil (x : G_log_worked) (y : Bool) : mset_log_worked_bool x y [] = [(x, y)] := by kernel_rfl
theorem mset_log_worked_bool_cons (x : G_log_worked) (y : Bool) (p : G_log_worked × Bool) (m : List (G_log_worked × Bool)) : mset_log_worked_bool x y (p :: m) = bif keq_log_worked x p.1 then (x, y) :: m else p :: mset_log_worked_bool x y m := by kernel_rfl
theorem ko_58x (x p : G_Contact) : eqT Tryz.prog 64 58 (packAV T 58 x) (packAV T 58 p) = some (eqDs (T.enc 58 x) (T.enc 58 p)) := by kernel_rfl
theorem ko_58 : KeyOk Tryz.prog T 58 := by
  intro x p
  exact ko_58x x p
theorem kd_58 : ∃ kd, Tryz.prog.underlying 58 = some kd := Option.isSome_iff_exists.1 (by kernel_rfl)
theorem ko_92x (x p : G_log_worked) : eqT Tryz.prog 64 92 (packAV T 92 x) (packAV T 92 p) = some (eqDs (T.enc 92 x) (T.enc 92 p)) := by kernel_rfl
theorem ko_92 : KeyOk Tryz.prog T 92 := by
  intro x p
  exact ko_92x x p
theorem kd_92 : ∃ kd, Tryz.prog.underlying 92 = some kd := Option.isSome_iff_exists.1 (by kernel_rfl)
def keyT (k : Nat) : Bool := k == 58 || k == 92
theorem keysOk : ∀ k, keyT k = true → KeyOk Tryz.prog T k ∧ ∃ kd, Tryz.prog.underlying k = some kd := by
  intro k h
  simp only [keyT, Bool.or_eq_true, beq_iff_eq] at h
  rcases h with rfl | rfl
  · exact ⟨ko_58, kd_58⟩
  · exact ⟨ko_92, kd_92⟩
theorem flatOk : FlatOk T flatT := fun e h x d hd => flatEOk (el e) h x d hd
theorem std : Std Tryz.prog T keyT flatT := ⟨tyOk Tryz.prog, flatOk, keysOk, by kernel_rfl⟩
abbrev Ok (f : Nat) (S : Spec A) : Prop := OkF Tryz.prog T f S
noncomputable def mkE (C : List (Nat × Spec A)) (tg : List (Nat × List Nat)) (lh xh : List (Nat × Hint)) (cl : List (Nat × Piece A)) (sh xs : List (Nat × Hint)) (cs : List (Nat × Piece A)) (md : List (Nat × Nat)) (pin : List Nat) : Env A :=
  { P := Tryz.prog, T := T, C := fun f => C.lookup f, tg := fun d => (tg.lookup d).getD [], seqH := fun i => sh.lookup i, loopH := fun i => lh.lookup i, exitH := fun i => xh.lookup i, exitS := fun i => xs.lookup i, cutS := fun i => cs.lookup i, cutL := fun i => cl.lookup i, mode := fun f i => md.contains (f, i), keyed := keyT, flat := flatT, pin := pin }
end Go.Am
