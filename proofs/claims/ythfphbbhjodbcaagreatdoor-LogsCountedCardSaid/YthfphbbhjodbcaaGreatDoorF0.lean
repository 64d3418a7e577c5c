/- The functions of the program as Lean functions, each shown to be what the code computes, part 0. No condition: lemmas for the claim. -/
import Derived.Test.YthfphbbhjodbcaaGreatDoorAmExt
import Derived.Test.YthfphbbhjodbcaaGreatDoorProg
import Derived.KernelRfl
set_option linter.unusedVariables false
set_option maxRecDepth 100000
namespace Go.Am
open Go Go.Proofs
structure G_Window where
  f_From : Int
  f_To : Int
structure G_Row where
  f_From : Int
  f_To : Int
structure G_Contact where
  f_At : Int
  f_Mode : Int
  f_Band : List UInt8
  f_Call : List UInt8
  f_Sent : Int
  f_Heard : Int
  f_Gave : List UInt8
  f_Got : List UInt8
structure G_worked where
  f_base : List UInt8
  f_band : List UInt8
  f_mode : Int
inductive El where
  | e3 | e4 | e9 | e31 | e34 | e54 | e58 | e92 | no
def el : Nat → El
  | 3 => .e3
  | 4 => .e4
  | 9 => .e9
  | 31 => .e31
  | 34 => .e34
  | 54 => .e54
  | 58 => .e58
  | 92 => .e92
  | _ => .no
def AE : El → Type
  | .e3 => Int
  | .e4 => Bool
  | .e9 => List UInt8
  | .e31 => G_Window
  | .e34 => Int
  | .e54 => G_Row
  | .e58 => G_Contact
  | .e92 => G_worked
  | .no => Unit
abbrev A (e : Nat) : Type := AE (el e)
def sizeE : El → Nat
  | .e3 => 1
  | .e4 => 1
  | .e9 => 1
  | .e31 => 2
  | .e34 => 1
  | .e54 => 2
  | .e58 => 8
  | .e92 => 3
  | .no => 1
def enc_e3 (x : Int) : List (D A) := [.int .i64 x]
def dec_e3 (cs : List (D A)) : Option (Int) := match cs with | [c0] => (dInt .i64 c0).bind fun b1 => some b1 | _ => none
def enc_e4 (x : Bool) : List (D A) := [.bool x]
def dec_e4 (cs : List (D A)) : Option (Bool) := match cs with | [c0] => (dBool c0).bind fun b1 => some b1 | _ => none
def enc_e9 (x : List UInt8) : List (D A) := [.str x]
def dec_e9 (cs : List (D A)) : Option (List UInt8) := match cs with | [c0] => (dStr c0).bind fun b1 => some b1 | _ => none
def enc_e31 (x : G_Window) : List (D A) := [.int .i64 x.f_From, .int .i64 x.f_To]
def dec_e31 (cs : List (D A)) : Option (G_Window) := match cs with | [c0, c1] => (dInt .i64 c0).bind fun b1 => (dInt .i64 c1).bind fun b2 => some ⟨b1, b2⟩ | _ => none
def enc_e34 (x : Int) : List (D A) := [.int .i64 x]
def dec_e34 (cs : List (D A)) : Option (Int) := match cs with | [c0] => (dInt .i64 c0).bind fun b1 => some b1 | _ => none
def enc_e54 (x : G_Row) : List (D A) := [.int .i64 x.f_From, .int .i64 x.f_To]
def dec_e54 (cs : List (D A)) : Option (G_Row) := match cs with | [c0, c1] => (dInt .i64 c0).bind fun b1 => (dInt .i64 c1).bind fun b2 => some ⟨b1, b2⟩ | _ => none
def enc_e58 (x : G_Contact) : List (D A) := [.int .i64 x.f_At, .int .i64 x.f_Mode, .str x.f_Band, .str x.f_Call, .int .i64 x.f_Sent, .int .i64 x.f_Heard, .str x.f_Gave, .str x.f_Got]
def dec_e58 (cs : List (D A)) : Option (G_Contact) := match cs with | [c0, c1, c2, c3, c4, c5, c6, c7] => (dInt .i64 c0).bind fun b1 => (dInt .i64 c1).bind fun b2 => (dStr c2).bind fun b3 => (dStr c3).bind fun b4 => (dInt .i64 c4).bind fun b5 => (dInt .i64 c5).bind fun b6 => (dStr c6).bind fun b7 => (dStr c7).bind fun b8 => some ⟨b1, b2, b3, b4, b5, b6, b7, b8⟩ | _ => none
def enc_e92 (x : G_worked) : List (D A) := [.str x.f_base, .str x.f_band, .int .i64 x.f_mode]
def dec_e92 (cs : List (D A)) : Option (G_worked) := match cs with | [c0, c1, c2] => (dStr c0).bind fun b1 => (dStr c1).bind fun b2 => (dInt .i64 c2).bind fun b3 => some ⟨b1, b2, b3⟩ | _ => none
def encE : (k : El) → AE k → List (D A)
  | .e3, x => enc_e3 x
  | .e4, x => enc_e4 x
  | .e9, x => enc_e9 x
  | .e31, x => enc_e31 x
  | .e34, x => enc_e34 x
  | .e54, x => enc_e54 x
  | .e58, x => enc_e58 x
  | .e92, x => enc_e92 x
  | .no, _ => [.nilif]
def decE : (k : El) → List (D A) → Option (AE k)
  | .e3, cs => dec_e3 cs
  | .e4, cs => dec_e4 cs
  | .e9, cs => dec_e9 cs
  | .e31, cs => dec_e31 cs
  | .e34, cs => dec_e34 cs
  | .e54, cs => dec_e54 cs
  | .e58, cs => dec_e58 cs
  | .e92, cs => dec_e92 cs
  | .no, _ => none
def aggE : El → Bool
  | .e3 => false
  | .e4 => false
  | .e9 => false
  | .e31 => true
  | .e34 => false
  | .e54 => true
  | .e58 => true
  | .e92 => true
  | .no => false
def T : Ty A where
  size := fun e => sizeE (el e)
  enc := fun e x => encE (el e) x
  dec := fun e cs => decE (el e) cs
  agg := fun e => aggE (el e)
theorem lenE : ∀ k x, (encE k x).length = sizeE k := by intro k x; cases k <;> rfl
theorem posE : ∀ k, 0 < sizeE k := by intro k; cases k <;> decide
theorem dok_e3 {cs : List (D A)} {x : Int} (h : dec_e3 cs = some x) : OkL T cs (enc_e3 x) := by
  unfold dec_e3 at h
  split at h
  · simp only [Option.bind_eq_some_iff] at h
    obtain ⟨b1, h1, hx⟩ := h
    obtain rfl := Option.some.inj hx
    exact (.cons (gInt h1) .nil)
  · cases h
theorem flt_e3 (x : Int) : (enc_e3 x).all D.plain = true := rfl
theorem dok_e4 {cs : List (D A)} {x : Bool} (h : dec_e4 cs = some x) : OkL T cs (enc_e4 x) := by
  unfold dec_e4 at h
  split at h
  · simp only [Option.bind_eq_some_iff] at h
    obtain ⟨b1, h1, hx⟩ := h
    obtain rfl := Option.some.inj hx
    exact (.cons (gBool h1) .nil)
  · cases h
theorem flt_e4 (x : Bool) : (enc_e4 x).all D.plain = true := rfl
theorem dok_e9 {cs : List (D A)} {x : List UInt8} (h : dec_e9 cs = some x) : OkL T cs (enc_e9 x) := by
  unfold dec_e9 at h
  split at h
  · simp only [Option.bind_eq_some_iff] at h
    obtain ⟨b1, h1, hx⟩ := h
    obtain rfl := Option.some.inj hx
    exact (.cons (gStr h1) .nil)
  · cases h
theorem flt_e9 (x : List UInt8) : (enc_e9 x).all D.plain = true := rfl
theorem dok_e31 {cs : List (D A)} {x : G_Window} (h : dec_e31 cs = some x) : OkL T cs (enc_e31 x) := by
  unfold dec_e31 at h
  split at h
  · simp only [Option.bind_eq_some_iff] at h
    obtain ⟨b1, h1, b2, h2, hx⟩ := h
    obtain rfl := Option.some.inj hx
    exact (.cons (gInt h1) (.cons (gInt h2) .nil))
  · cases h
theorem flt_e31 (x : G_Window) : (enc_e31 x).all D.plain = true := rfl
theorem dok_e34 {cs : List (D A)} {x : Int} (h : dec_e34 cs = some x) : OkL T cs (enc_e34 x) := by
  unfold dec_e34 at h
  split at h
  · simp only [Option.bind_eq_some_iff] at h
    obtain ⟨b1, h1, hx⟩ := h
    obtain rfl := Option.some.inj hx
    exact (.cons (gInt h1) .nil)
  · cases h
theorem flt_e34 (x : Int) : (enc_e34 x).all D.plain = true := rfl
theorem dok_e54 {cs : List (D A)} {x : G_Row} (h : dec_e54 cs = some x) : OkL T cs (enc_e54 x) := by
  unfold dec_e54 at h
  split at h
  · simp only [Option.bind_eq_some_iff] at h
    obtain ⟨b1, h1, b2, h2, hx⟩ := h
    obtain rfl := Option.some.inj hx
    exact (.cons (gInt h1) (.cons (gInt h2) .nil))
  · cases h
theorem flt_e54 (x : G_Row) : (enc_e54 x).all D.plain = true := rfl
theorem dok_e58 {cs : List (D A)} {x : G_Contact} (h : dec_e58 cs = some x) : OkL T cs (enc_e58 x) := by
  unfold dec_e58 at h
  split at h
  · simp only [Option.bind_eq_some_iff] at h
    obtain ⟨b1, h1, b2, h2, b3, h3, b4, h4, b5, h5, b6, h6, b7, h7, b8, h8, hx⟩ := h
    obtain rfl := Option.some.inj hx
    exact (.cons (gInt h1) (.cons (gInt h2) (.cons (gStr h3) (.cons (gStr h4) (.cons (gInt h5) (.cons (gInt h6) (.cons (gStr h7) (.cons (gStr h8) .nil))))))))
  · cases h
theorem flt_e58 (x : G_Contact) : (enc_e58 x).all D.plain = true := rfl
theorem dok_e92 {cs : List (D A)} {x : G_worked} (h : dec_e92 cs = some x) : OkL T cs (enc_e92 x) := by
  unfold dec_e92 at h
  split at h
  · simp only [Option.bind_eq_some_iff] at h
    obtain ⟨b1, h1, b2, h2, b3, h3, hx⟩ := h
    obtain rfl := Option.some.inj hx
    exact (.cons (gStr h1) (.cons (gStr h2) (.cons (gInt h3) .nil)))
  · cases h
theorem flt_e92 (x : G_worked) : (enc_e92 x).all D.plain = true := rfl
theorem decOk : ∀ k cs x, decE k cs = some x → OkL T cs (encE k x) := by
  intro k cs x h
  cases k
  case e3 => exact dok_e3 h
  case e4 => exact dok_e4 h
  case e9 => exact dok_e9 h
  case e31 => exact dok_e31 h
  case e34 => exact dok_e34 h
  case e54 => exact dok_e54 h
  case e58 => exact dok_e58 h
  case e92 => exact dok_e92 h
  case no => cases h
theorem tyOk (P : Program) : TyOk P T := ⟨fun e x => lenE (el e) x, fun e => posE (el e), fun e cs x h => by
  obtain ⟨h1, h2⟩ := decOk (el e) cs x h
  exact ⟨h1.trans (lenE (el e) x), h2⟩⟩
def flatE : El → Bool
  | .e3 => true
  | .e4 => true
  | .e9 => true
  | .e31 => true
  | .e34 => true
  | .e54 => true
  | .e58 => true
  | .e92 => true
  | .no => false
def flatT (e : Nat) : Bool := flatE (el e)
theorem flatEOk : ∀ k, flatE k = true → ∀ x d, d ∈ encE k x → D.plain d = true := by
  intro k h x d hd
  cases k
  case e3 => exact List.all_eq_true.1 (flt_e3 x) d hd
  case e4 => exact List.all_eq_true.1 (flt_e4 x) d hd
  case e9 => exact List.all_eq_true.1 (flt_e9 x) d hd
  case e31 => exact List.all_eq_true.1 (flt_e31 x) d hd
  case e34 => exact List.all_eq_true.1 (flt_e34 x) d hd
  case e54 => exact List.all_eq_true.1 (flt_e54 x) d hd
  case e58 => exact List.all_eq_true.1 (flt_e58 x) d hd
  case e92 => exact List.all_eq_true.1 (flt_e92 x) d hd
  case no => cases h
def mget_3_3 (x : Int) (m : List ((Int) × (Int))) : Option (Int) := getM T 3 3 x m
def mset_3_3 (x : Int) (y : Int) (m : List ((Int) × (Int))) : List ((Int) × (Int)) := setM T 3 3 x y m
def mget_92_4 (x : G_worked) (m : List ((G_worked) × (Bool))) : Option (Bool) := getM T 92 4 x m
def mset_92_4 (x : G_worked) (y : Bool) (m : List ((G_worked) × (Bool))) : List ((G_worked) × (Bool)) := setM T 92 4 x y m
theorem ko_3x (x p : Int) : eqT Tryz.prog 64 3 (packAV T 3 x) (packAV T 3 p) = some ((x : Int) == (p : Int)) := by kernel_rfl
theorem ko_3y (x p : Int) : some (eqDs (T.enc 3 x) (T.enc 3 p)) = some ((x == p) && true) := by kernel_rfl
theorem ko_3z (x p : Int) : eqT Tryz.prog 64 3 (packAV T 3 x) (packAV T 3 p) = some (eqDs (T.enc 3 x) (T.enc 3 p)) := (ko_3x x p).trans (((congrArg some (Bool.and_true (x == p))).symm).trans (ko_3y x p).symm)
theorem ko_3 : KeyOk Tryz.prog T 3 := fun x p => ko_3z x p
theorem kd_3 : ∃ kd, Tryz.prog.underlying 3 = some kd := Option.isSome_iff_exists.1 (by kernel_rfl)
theorem ko_92x (x p : G_worked) : eqT Tryz.prog 64 92 (packAV T 92 x) (packAV T 92 p) = some (eqDs (T.enc 92 x) (T.enc 92 p)) := by kernel_rfl
theorem ko_92 : KeyOk Tryz.prog T 92 := by
  intro x p
  exact ko_92x x p
theorem kd_92 : ∃ kd, Tryz.prog.underlying 92 = some kd := Option.isSome_iff_exists.1 (by kernel_rfl)
def keyT (k : Nat) : Bool := k == 3 || k == 92
theorem keysOk : ∀ k, keyT k = true → KeyOk Tryz.prog T k ∧ ∃ kd, Tryz.prog.underlying k = some kd := by
  intro k h
  simp only [keyT, Bool.or_eq_true, beq_iff_eq] at h
  rcases h with rfl | rfl
  · exact ⟨ko_3, kd_3⟩
  · exact ⟨ko_92, kd_92⟩
theorem flatOk : FlatOk T flatT := fun e h x d hd => flatEOk (el e) h x d hd
theorem mixed : Tryz.prog.follows .mixedOrders = true := by kernel_rfl
end Go.Am
