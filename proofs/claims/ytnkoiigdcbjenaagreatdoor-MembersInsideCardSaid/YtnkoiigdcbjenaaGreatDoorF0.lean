/- The functions of the program as Lean functions, each shown to be what the code computes, part 0. No condition: lemmas for the claim. -/
import Derived.Test.YtnkoiigdcbjenaaGreatDoorAmPrint
import Derived.Test.YtnkoiigdcbjenaaGreatDoorFSh
import Derived.Test.YtnkoiigdcbjenaaGreatDoorAmExt2
import Derived.Test.YtnkoiigdcbjenaaGreatDoorProg
import Derived.KernelRfl
set_option linter.unusedVariables false
set_option maxRecDepth 100000
namespace Go.Am
open Go Go.Proofs
structure G_Stream where
  f_L : List Int
  f_at : Int
  deriving DecidableEq
structure G_Entrant where
  f_Call : List UInt8
  f_Category : List UInt8
  f_Points : Int
  f_Locator : List UInt8
  deriving DecidableEq
structure G_Place where
  f_Rank : Int
  f_Points : Int
  f_Key : List UInt8
  deriving DecidableEq
structure G_Club where
  f_Key : List UInt8
  f_Squares : List (List UInt8)
  deriving DecidableEq
structure G_Member where
  f_Call : List UInt8
  f_Club : List UInt8
  f_Day : Int
  f_Locator : List UInt8
  deriving DecidableEq
structure G_Parts where
  f_Base : List UInt8
  f_Prefix : List UInt8
  f_Suffix : List UInt8
  f_Kind : Int
  f_Added : List UInt8
  deriving DecidableEq
inductive El where
  | e3 | e9 | e25 | e36 | e100 | e103 | e106 | e109 | e146 | no
def el : Nat → El
  | 3 => .e3
  | 9 => .e9
  | 25 => .e25
  | 36 => .e36
  | 100 => .e100
  | 103 => .e103
  | 106 => .e106
  | 109 => .e109
  | 146 => .e146
  | _ => .no
def AE : El → Type
  | .e3 => Int
  | .e9 => List UInt8
  | .e25 => G_Stream
  | .e36 => Int
  | .e100 => G_Entrant
  | .e103 => G_Place
  | .e106 => G_Club
  | .e109 => G_Member
  | .e146 => G_Parts
  | .no => Unit
abbrev A (e : Nat) : Type := AE (el e)
def sizeE : El → Nat
  | .e3 => 1
  | .e9 => 1
  | .e25 => 2
  | .e36 => 1
  | .e100 => 4
  | .e103 => 3
  | .e106 => 2
  | .e109 => 4
  | .e146 => 5
  | .no => 1
def enc_e3 (x : Int) : List (D A) := [.int .i64 x]
def dec_e3 (cs : List (D A)) : Option (Int) := match cs with | [c0] => (dInt .i64 c0).bind fun b1 => some b1 | _ => none
def enc_e9 (x : List UInt8) : List (D A) := [.str x]
def dec_e9 (cs : List (D A)) : Option (List UInt8) := match cs with | [c0] => (dStr c0).bind fun b1 => some b1 | _ => none
def enc_e25 (x : G_Stream) : List (D A) := [.sl 3 x.f_L, .int .i64 x.f_at]
def dec_e25 (cs : List (D A)) : Option (G_Stream) := match cs with | [c0, c1] => (dSl 3 c0).bind fun b1 => (dInt .i64 c1).bind fun b2 => some ⟨b1, b2⟩ | _ => none
def enc_e36 (x : Int) : List (D A) := [.int .i64 x]
def dec_e36 (cs : List (D A)) : Option (Int) := match cs with | [c0] => (dInt .i64 c0).bind fun b1 => some b1 | _ => none
def enc_e100 (x : G_Entrant) : List (D A) := [.str x.f_Call, .str x.f_Category, .int .i64 x.f_Points, .str x.f_Locator]
def dec_e100 (cs : List (D A)) : Option (G_Entrant) := match cs with | [c0, c1, c2, c3] => (dStr c0).bind fun b1 => (dStr c1).bind fun b2 => (dInt .i64 c2).bind fun b3 => (dStr c3).bind fun b4 => some ⟨b1, b2, b3, b4⟩ | _ => none
def enc_e103 (x : G_Place) : List (D A) := [.int .i64 x.f_Rank, .int .i64 x.f_Points, .str x.f_Key]
def dec_e103 (cs : List (D A)) : Option (G_Place) := match cs with | [c0, c1, c2] => (dInt .i64 c0).bind fun b1 => (dInt .i64 c1).bind fun b2 => (dStr c2).bind fun b3 => some ⟨b1, b2, b3⟩ | _ => none
def enc_e106 (x : G_Club) : List (D A) := [.str x.f_Key, .sl 9 x.f_Squares]
def dec_e106 (cs : List (D A)) : Option (G_Club) := match cs with | [c0, c1] => (dStr c0).bind fun b1 => (dSl 9 c1).bind fun b2 => some ⟨b1, b2⟩ | _ => none
def enc_e109 (x : G_Member) : List (D A) := [.str x.f_Call, .str x.f_Club, .int .i64 x.f_Day, .str x.f_Locator]
def dec_e109 (cs : List (D A)) : Option (G_Member) := match cs with | [c0, c1, c2, c3] => (dStr c0).bind fun b1 => (dStr c1).bind fun b2 => (dInt .i64 c2).bind fun b3 => (dStr c3).bind fun b4 => some ⟨b1, b2, b3, b4⟩ | _ => none
def enc_e146 (x : G_Parts) : List (D A) := [.str x.f_Base, .str x.f_Prefix, .str x.f_Suffix, .int .i64 x.f_Kind, .str x.f_Added]
def dec_e146 (cs : List (D A)) : Option (G_Parts) := match cs with | [c0, c1, c2, c3, c4] => (dStr c0).bind fun b1 => (dStr c1).bind fun b2 => (dStr c2).bind fun b3 => (dInt .i64 c3).bind fun b4 => (dStr c4).bind fun b5 => some ⟨b1, b2, b3, b4, b5⟩ | _ => none
def encE : (k : El) → AE k → List (D A)
  | .e3, x => enc_e3 x
  | .e9, x => enc_e9 x
  | .e25, x => enc_e25 x
  | .e36, x => enc_e36 x
  | .e100, x => enc_e100 x
  | .e103, x => enc_e103 x
  | .e106, x => enc_e106 x
  | .e109, x => enc_e109 x
  | .e146, x => enc_e146 x
  | .no, _ => [.nilif]
def decE : (k : El) → List (D A) → Option (AE k)
  | .e3, cs => dec_e3 cs
  | .e9, cs => dec_e9 cs
  | .e25, cs => dec_e25 cs
  | .e36, cs => dec_e36 cs
  | .e100, cs => dec_e100 cs
  | .e103, cs => dec_e103 cs
  | .e106, cs => dec_e106 cs
  | .e109, cs => dec_e109 cs
  | .e146, cs => dec_e146 cs
  | .no, _ => none
def aggE : El → Bool
  | .e3 => false
  | .e9 => false
  | .e25 => true
  | .e36 => false
  | .e100 => true
  | .e103 => true
  | .e106 => true
  | .e109 => true
  | .e146 => true
  | .no => false
def T : Ty A where
  size := fun e => sizeE (el e)
  enc := fun e x => encE (el e) x
  dec := fun e cs => decE (el e) cs
  agg := fun e => aggE (el e)
theorem lenE : ∀ k x, (encE k x).length = sizeE k := by intro k x; cases k <;> rfl
theorem posE : ∀ k, 0 < sizeE k := by intro k; cases k <;> decide
theorem dok_e3 {U : Ty A} {cs : List (D A)} {x : Int} (h : dec_e3 cs = some x) : OkL U cs (enc_e3 x) := by
  unfold dec_e3 at h
  split at h
  · simp only [Option.bind_eq_some_iff] at h
    obtain ⟨b1, h1, hx⟩ := h
    obtain rfl := Option.some.inj hx
    exact (.cons (gInt h1) .nil)
  · cases h
theorem flt_e3 (x : Int) : (enc_e3 x).all D.plain = true := rfl
theorem dok_e9 {U : Ty A} {cs : List (D A)} {x : List UInt8} (h : dec_e9 cs = some x) : OkL U cs (enc_e9 x) := by
  unfold dec_e9 at h
  split at h
  · simp only [Option.bind_eq_some_iff] at h
    obtain ⟨b1, h1, hx⟩ := h
    obtain rfl := Option.some.inj hx
    exact (.cons (gStr h1) .nil)
  · cases h
theorem flt_e9 (x : List UInt8) : (enc_e9 x).all D.plain = true := rfl
theorem dok_e25 {U : Ty A} {cs : List (D A)} {x : G_Stream} (h : dec_e25 cs = some x) : OkL U cs (enc_e25 x) := by
  unfold dec_e25 at h
  split at h
  · simp only [Option.bind_eq_some_iff] at h
    obtain ⟨b1, h1, b2, h2, hx⟩ := h
    obtain rfl := Option.some.inj hx
    exact (.cons (gSl h1) (.cons (gInt h2) .nil))
  · cases h
theorem dok_e36 {U : Ty A} {cs : List (D A)} {x : Int} (h : dec_e36 cs = some x) : OkL U cs (enc_e36 x) := by
  unfold dec_e36 at h
  split at h
  · simp only [Option.bind_eq_some_iff] at h
    obtain ⟨b1, h1, hx⟩ := h
    obtain rfl := Option.some.inj hx
    exact (.cons (gInt h1) .nil)
  · cases h
theorem flt_e36 (x : Int) : (enc_e36 x).all D.plain = true := rfl
theorem dok_e100 {U : Ty A} {cs : List (D A)} {x : G_Entrant} (h : dec_e100 cs = some x) : OkL U cs (enc_e100 x) := by
  unfold dec_e100 at h
  split at h
  · simp only [Option.bind_eq_some_iff] at h
    obtain ⟨b1, h1, b2, h2, b3, h3, b4, h4, hx⟩ := h
    obtain rfl := Option.some.inj hx
    exact (.cons (gStr h1) (.cons (gStr h2) (.cons (gInt h3) (.cons (gStr h4) .nil))))
  · cases h
theorem flt_e100 (x : G_Entrant) : (enc_e100 x).all D.plain = true := rfl
theorem dok_e103 {U : Ty A} {cs : List (D A)} {x : G_Place} (h : dec_e103 cs = some x) : OkL U cs (enc_e103 x) := by
  unfold dec_e103 at h
  split at h
  · simp only [Option.bind_eq_some_iff] at h
    obtain ⟨b1, h1, b2, h2, b3, h3, hx⟩ := h
    obtain rfl := Option.some.inj hx
    exact (.cons (gInt h1) (.cons (gInt h2) (.cons (gStr h3) .nil)))
  · cases h
theorem flt_e103 (x : G_Place) : (enc_e103 x).all D.plain = true := rfl
theorem dok_e106 {U : Ty A} {cs : List (D A)} {x : G_Club} (h : dec_e106 cs = some x) : OkL U cs (enc_e106 x) := by
  unfold dec_e106 at h
  split at h
  · simp only [Option.bind_eq_some_iff] at h
    obtain ⟨b1, h1, b2, h2, hx⟩ := h
    obtain rfl := Option.some.inj hx
    exact (.cons (gStr h1) (.cons (gSl h2) .nil))
  · cases h
theorem dok_e109 {U : Ty A} {cs : List (D A)} {x : G_Member} (h : dec_e109 cs = some x) : OkL U cs (enc_e109 x) := by
  unfold dec_e109 at h
  split at h
  · simp only [Option.bind_eq_some_iff] at h
    obtain ⟨b1, h1, b2, h2, b3, h3, b4, h4, hx⟩ := h
    obtain rfl := Option.some.inj hx
    exact (.cons (gStr h1) (.cons (gStr h2) (.cons (gInt h3) (.cons (gStr h4) .nil))))
  · cases h
theorem flt_e109 (x : G_Member) : (enc_e109 x).all D.plain = true := rfl
theorem dok_e146 {U : Ty A} {cs : List (D A)} {x : G_Parts} (h : dec_e146 cs = some x) : OkL U cs (enc_e146 x) := by
  unfold dec_e146 at h
  split at h
  · simp only [Option.bind_eq_some_iff] at h
    obtain ⟨b1, h1, b2, h2, b3, h3, b4, h4, b5, h5, hx⟩ := h
    obtain rfl := Option.some.inj hx
    exact (.cons (gStr h1) (.cons (gStr h2) (.cons (gStr h3) (.cons (gInt h4) (.cons (gStr h5) .nil)))))
  · cases h
theorem flt_e146 (x : G_Parts) : (enc_e146 x).all D.plain = true := rfl
def TD : Ty A := T.day
theorem decOk {U : Ty A} : ∀ k cs x, decE k cs = some x → OkL U cs (encE k x) := by
  intro k cs x h
  cases k
  case e3 => exact dok_e3 h
  case e9 => exact dok_e9 h
  case e25 => exact dok_e25 h
  case e36 => exact dok_e36 h
  case e100 => exact dok_e100 h
  case e103 => exact dok_e103 h
  case e106 => exact dok_e106 h
  case e109 => exact dok_e109 h
  case e146 => exact dok_e146 h
  case no => cases h
theorem tyOkD (P : Program) : TyOk P TD := ⟨fun e x => lenE (el e) x, fun e => posE (el e), fun e cs x h => by
  obtain ⟨h1, h2⟩ := decOk (U := TD) (el e) cs x h
  exact ⟨h1.trans (lenE (el e) x), h2⟩⟩
theorem tyOk (P : Program) : TyOk P T := ⟨fun e x => lenE (el e) x, fun e => posE (el e), fun e cs x h => by
  obtain ⟨h1, h2⟩ := decOk (el e) cs x h
  exact ⟨h1.trans (lenE (el e) x), h2⟩⟩
def flatE : El → Bool
  | .e3 => true
  | .e9 => true
  | .e25 => false
  | .e36 => true
  | .e100 => true
  | .e103 => true
  | .e106 => false
  | .e109 => true
  | .e146 => true
  | .no => false
def flatT (e : Nat) : Bool := flatE (el e)
theorem flatEOk : ∀ k, flatE k = true → ∀ x d, d ∈ encE k x → D.plain d = true := by
  intro k h x d hd
  cases k
  case e3 => exact List.all_eq_true.1 (flt_e3 x) d hd
  case e9 => exact List.all_eq_true.1 (flt_e9 x) d hd
  case e25 => cases h
  case e36 => exact List.all_eq_true.1 (flt_e36 x) d hd
  case e100 => exact List.all_eq_true.1 (flt_e100 x) d hd
  case e103 => exact List.all_eq_true.1 (flt_e103 x) d hd
  case e106 => cases h
  case e109 => exact List.all_eq_true.1 (flt_e109 x) d hd
  case e146 => exact List.all_eq_true.1 (flt_e146 x) d hd
  case no => cases h
def mget_string_Member (x : List UInt8) (m : List (List UInt8 × G_Member)) : Option G_Member := getM T 9 109 x m
def mdel_string_Member (x : List UInt8) (m : List (List UInt8 × G_Member)) : List (List UInt8 × G_Member) := delM T 9 109 x m
def mset_string_Member (x : List UInt8) (y : G_Member) (m : List (List UInt8 × G_Member)) : List (List UInt8 × G_Member) := setM T 9 109 x y m
def keq_string (x y : List UInt8) : Bool := (x == y && true)
theorem mget_string_Member_nil (x : List UInt8) : mget_string_Member x [] = none := by kernel_rfl
theorem mget_string_Member_cons (x : List UInt8) (p : List UInt8 × G_Member) (m : List (List UInt8 × G_Member)) : mget_string_Member x (p :: m) = bif keq_string x p.1 then some p.2 else mget_string_Member x m := by kernel_rfl
theorem mdel_string_Member_nil (x : List UInt8) : mdel_string_Member x [] = [] := by kernel_rfl
theorem mdel_string_Member_cons (x : List UInt8) (p : List UInt8 × G_Member) (m : List (List UInt8 × G_Member)) : mdel_string_Member x (p :: m) = bif keq_string x p.1 then m else p :: mdel_string_Member x m := by kernel_rfl
theorem mset_string_Member_nil (x : List UInt8) (y : G_Member) : mset_string_Member x y [] = [(x, y)] := by kernel_rfl
theorem mset_string_Member_cons (x : List UInt8) (y : G_Member) (p : List UInt8 × G_Member) (m : List (List UInt8 × G_Member)) : mset_string_Member x y (p :: m) = bif keq_string x p.1 then (x, y) :: m else p :: mset_string_Member x y m := by kernel_rfl
theorem ko_9x (x p : List UInt8) : eqT Tryz.prog 64 9 (packAV T 9 x) (packAV T 9 p) = some ((x : List UInt8) == (p : List UInt8)) := by kernel_rfl
theorem ko_9y (x p : List UInt8) : some (eqDs (T.enc 9 x) (T.enc 9 p)) = some ((x == p) && true) := by kernel_rfl
theorem ko_9z (x p : List UInt8) : eqT Tryz.prog 64 9 (packAV T 9 x) (packAV T 9 p) = some (eqDs (T.enc 9 x) (T.enc 9 p)) := (ko_9x x p).trans (((congrArg some (Bool.and_true (x == p))).symm).trans (ko_9y x p).symm)
theorem ko_9 : KeyOk Tryz.prog T 9 := fun x p => ko_9z x p
theorem kd_9 : ∃ kd, Tryz.prog.underlying 9 = some kd := Option.isSome_iff_exists.1 (by kernel_rfl)
def keyT (k : Nat) : Bool := k == 9
theorem keysOk : ∀ k, keyT k = true → KeyOk Tryz.prog T k ∧ ∃ kd, Tryz.prog.underlying k = some kd := by
  intro k h
  simp only [keyT, Bool.or_eq_true, beq_iff_eq] at h
  rcases h with rfl
  · exact ⟨ko_9, kd_9⟩
theorem flatOk : FlatOk T flatT := fun e h x d hd => flatEOk (el e) h x d hd
theorem spo_69 : SpOk Tryz.prog T 69 (.wrap 111 true) := spWrapM (M := 111) (enters_of (fn := Tryz.f69) Tryz.func69 (by kernel_rfl) (by kernel_rfl)) fun mb w => (callsIn_wide (n := 5)).1 (Go.Proofs.AnyZ.keys_in Tryz.keys69 Fence.wide 5 trivial rfl mb w)
def srtK9 : List (List UInt8) → Option (List (List UInt8)) := ordS (A := A) (k := 9) (fun x => x) (fun x => x)
theorem sorts_68 (m : Nat) : Go.Proofs.AnyZ.SortsIn Tryz.prog Tryz.sorted68_ren Fence.wide m :=
  ⟨fun blk off cap ss W hH hblk hsz => callsIn_wide.2 (Go.Proofs.AnyM.slices_Sort_string Tryz.sort110 blk off cap ss W hH hblk hsz), fun p cap W => callsIn_wide.2 (Go.Proofs.AnyM.slices_Sort_string_none Tryz.sort110 p cap W)⟩
theorem hk_68_111 : KeysHc Tryz.prog 9 68 111 := fun b nn B D0 R w hown hmax hbytes hm hB =>
  (callsIn_wide (n := 5)).1 (Go.Proofs.AnyZ.sorted_in Tryz.sorted68 Fence.wide 5 trivial trivial trivial trivial rfl (by omega) (sorts_68 _) (enters_of Tryz.func110 (by kernel_rfl) rfl) 111 #[.pointer (some ⟨B, 0, none⟩)] trivial (enters_of Tryz.func111 (by kernel_rfl) rfl) _ _ hmax hbytes _
    (Go.Proofs.AnyZ.keys_gives (ρ := Tryz.keys69_ren) { Tryz.keys69 with } Fence.wide _ trivial rfl (by omega) B b nn D0 _ hB hm hown))
theorem spo_68 : SpOk Tryz.prog T 68 (.keys [111] 9 srtK9) := spKeys (A := A) (T := T) (k := 9) rfl (fun x => x) (fun x => x) (fun _ => rfl) (fun _ => rfl) rfl rfl Tryz.underlying9 (enters_of (fn := Tryz.f68) Tryz.func68 (by kernel_rfl) (by kernel_rfl)) (by intro q hq; rw [List.mem_singleton] at hq; subst hq <;> first | exact hk_68_111)
def spT : List (Nat × Sp A) := [(68, .keys [111] 9 srtK9), (69, .wrap 111 true)]
theorem spAll : SpAll Tryz.prog T spT := .cons spo_68 (.cons spo_69 (.nil))
theorem std : Std Tryz.prog T keyT flatT (fun f => spT.lookup f) := ⟨tyOk Tryz.prog, flatOk, keysOk, spAll.ok, by kernel_rfl⟩
abbrev Ok (f : Nat) (S : Spec A) : Prop := OkF Tryz.prog T f S
theorem stdD : Std Tryz.prog TD keyT flatT (fun _ => none) := ⟨tyOkD Tryz.prog, fun e h x d hd => flatEOk (el e) h x d hd, keysOk, fun _ _ h => (by cases h), by kernel_rfl⟩
abbrev OkD (f : Nat) (S : Spec A) : Prop := OkF Tryz.prog TD f S
noncomputable def mkE (C : List (Nat × Spec A)) (tg : List (Nat × List Nat)) (lh xh : List (Nat × Hint)) (cl : List (Nat × Piece A)) (sh xs : List (Nat × Hint)) (cs : List (Nat × Piece A)) (md : List (Nat × Nat)) (pin : List Nat) : Env A :=
  { P := Tryz.prog, T := T, C := fun f => C.lookup f, tg := fun d => (tg.lookup d).getD [], seqH := fun i => sh.lookup i, loopH := fun i => lh.lookup i, exitH := fun i => xh.lookup i, exitS := fun i => xs.lookup i, cutS := fun i => cs.lookup i, cutL := fun i => cl.lookup i, mode := fun f i => md.contains (f, i), sp := fun f => spT.lookup f, keyed := keyT, flat := flatT, pin := pin }
noncomputable def mkED (C : List (Nat × Spec A)) (tg : List (Nat × List Nat)) (lh xh : List (Nat × Hint)) (cl : List (Nat × Piece A)) (sh xs : List (Nat × Hint)) (cs : List (Nat × Piece A)) (md : List (Nat × Nat)) (pin : List Nat) : Env A :=
  { P := Tryz.prog, T := TD, C := fun f => C.lookup f, tg := fun d => (tg.lookup d).getD [], seqH := fun i => sh.lookup i, loopH := fun i => lh.lookup i, exitH := fun i => xh.lookup i, exitS := fun i => xs.lookup i, cutS := fun i => cs.lookup i, cutL := fun i => cl.lookup i, mode := fun f i => md.contains (f, i), keyed := keyT, flat := flatT, pin := pin }
end Go.Am
