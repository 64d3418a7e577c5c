/- The functions of the program as Lean functions, each shown to be what the code computes, part 2. No condition: lemmas for the claim. -/
import Derived.Test.YtnkoiigdcbjenaaGreatDoorF0
import Derived.Test.YtnkoiigdcbjenaaGreatDoorFSh
import Derived.Test.YtnkoiigdcbjenaaGreatDoorF1
set_option linter.unusedVariables false
set_option maxRecDepth 100000
namespace Go.Am
open Go Go.Proofs
abbrev T_club_squaresFault : Type 1 := List (List UInt8) → {R : Type} → (Int → Option R) → Option R
structure C_club_squaresFault where
  N : Nat
  club_isSquare : T_club_isSquare
def club_squaresFault_L4 (g : C_club_squaresFault) : Nat → List (List UInt8) → List (List UInt8) → Int → Int → {R : Type} → (Int → Option R) → Option R → Option R
  | 0, _, _, _, _, _, _, _ => none
  | n + 1, v2, v3, v4, v5, _, e0, e1 => (bif (decide (v5 < v4)) then (get_ v3 v5 fun x9 => (g.club_isSquare x9 (fun r10 => (bif (!r10) then e0 3 else (bif (decide (v5 > 0)) then (get_ v2 (w64 (v5 - 1)) fun x11 => (bif (Op.bytesLess x9 x11 || x9 == x11) then e0 7 else club_squaresFault_L4 g n v2 v3 v4 (w64 (v5 + 1)) e0 e1)) else club_squaresFault_L4 g n v2 v3 v4 (w64 (v5 + 1)) e0 e1))))) else e1)
def club_squaresFault_ (g : C_club_squaresFault) (a1 : List (List UInt8)) {R : Type} (k0 : Int → Option R) : Option R :=
  (bif (decide ((a1.length : Int) > 100)) then k0 2 else (club_squaresFault_L4 g g.N a1 a1 (a1.length : Int) 0 (fun e12 => k0 e12) (k0 0)))
noncomputable def I_club_squaresFault [Fuel] : C_club_squaresFault := ⟨NN, @club_isSquare _⟩
noncomputable def club_squaresFault [Fuel] : T_club_squaresFault := @club_squaresFault_ I_club_squaresFault
def SS_club_squaresFault (g : T_club_squaresFault) : Spec A := fun args => match args with | [.d (.sl 9 a1)] => fun k => g a1 (fun z0 => k (.d (.int .i64 z0)) [.undef]) | _ => fun _ => none
def sh_club_squaresFault_L4 : SSt := mkSh 30 0 [(0, .sl 9), (8, .sl 9), (9, .int .i64), (10, .int .i64)] []
def LP_club_squaresFault_L4 (g : C_club_squaresFault) (n : Nat) : LPT A := fun ps => match ps with | [.d (.sl 9 p1), .d (.sl 9 p2), .d (.int .i64 p3), .d (.int .i64 p4)] => fun K => club_squaresFault_L4 g n p1 p2 p3 p4 (fun z0 => K .ret (mkSt 30 0 [(2, .d (.int .i64 z0))] [])) (K (.exit 0) (mkSt 30 0 [] [])) | _ => fun _ => none
noncomputable def code_80 : Code := (Tryz.f80.body).getD .skip
noncomputable def E_club_squaresFault (g : C_club_squaresFault) : Env A := mkE [(121, SS_club_isSquare g.club_isSquare)] [] [(4, ⟨[0, 8, 9, 10], [], [], []⟩)] [(4, ⟨[2], [], [], []⟩)] [(4, pieceOf sh_club_squaresFault_L4 (LP_club_squaresFault_L4 g g.N))] [] [] [] [] []
theorem ct_club_squaresFault [Fuel] : NatTab (E_club_squaresFault I_club_squaresFault).C := ct_of (P := Tryz.prog) (T := T) (.cons ok_club_isSquare .nil) (by kernel_rfl)
noncomputable def cb_club_squaresFault_L4 : Code := sub [1, 1, 0, 1, 0, 0] code_80
theorem s_club_squaresFault_L4 (g : C_club_squaresFault) (n : Nat) : StepOk (E_club_squaresFault g) g.N cb_club_squaresFault_L4 sh_club_squaresFault_L4 (LP_club_squaresFault_L4 g) n := by intro ps; unfold LP_club_squaresFault_L4; split; exact .inr fun R K => (by kernel_rfl); exact .inl fun R K => rfl
theorem lf_club_squaresFault_L4 [Fuel] : LoopFine (E_club_squaresFault I_club_squaresFault) NN cb_club_squaresFault_L4 := fine_loop sh_club_squaresFault_L4 (LP_club_squaresFault_L4 I_club_squaresFault) (by kernel_rfl) ct_club_squaresFault (cuts0 (fun _ => rfl) (by kernel_rfl)) (fun ps R K => by unfold LP_club_squaresFault_L4; split <;> (try unfold club_squaresFault_L4) <;> rfl) (s_club_squaresFault_L4 I_club_squaresFault)
theorem sm_club_squaresFault (g : C_club_squaresFault) : Same (SS_club_squaresFault (@club_squaresFault_ g)) (abody (E_club_squaresFault g) Tryz.f80 code_80 0 [] [.asis] g.N) := by intro args; unfold SS_club_squaresFault; split; exact .inr fun R k => (by kernel_rfl); exact .inl fun R k => rfl
theorem ok_club_squaresFault [Fuel] : Ok 80 (SS_club_squaresFault (@club_squaresFault _)) := okF_of std (.cons ok_club_isSquare .nil) ⟨rfl, rfl, by kernel_rfl, rfl, rfl, rfl⟩ (sm_club_squaresFault I_club_squaresFault) (cutsL (fun _ => rfl) (.cons lf_club_squaresFault_L4 .nil) (by kernel_rfl)) Tryz.func80 (by kernel_rfl) (by kernel_rfl)
abbrev T_club_CheckClubs : Type 1 := List G_Club → {R : Type} → (Int → Option R) → Option R
structure C_club_CheckClubs where
  N : Nat
  kit_IsKey : T_kit_IsKey
  club_squaresFault : T_club_squaresFault
def club_CheckClubs_L4 (g : C_club_CheckClubs) : Nat → List G_Club → List G_Club → Int → Int → {R : Type} → (Int → Option R) → Option R → Option R
  | 0, _, _, _, _, _, _, _ => none
  | n + 1, v2, v3, v4, v5, _, e0, e1 => (bif (decide (v5 < v4)) then (get_ v3 v5 fun x11 => (g.kit_IsKey x11.f_Key (fun r12 => (bif (!r12) then e0 5 else (bif (decide (v5 > 0)) then (get_ v2 (w64 (v5 - 1)) fun x13 => (bif (Op.bytesLess x11.f_Key x13.f_Key || x11.f_Key == x13.f_Key) then e0 7 else (g.club_squaresFault x11.f_Squares (fun r14 => (bif (r14 != 0) then e0 r14 else club_CheckClubs_L4 g n v2 v3 v4 (w64 (v5 + 1)) e0 e1))))) else (g.club_squaresFault x11.f_Squares (fun r15 => (bif (r15 != 0) then e0 r15 else club_CheckClubs_L4 g n v2 v3 v4 (w64 (v5 + 1)) e0 e1)))))))) else e1)
def club_CheckClubs_ (g : C_club_CheckClubs) (a1 : List G_Club) {R : Type} (k0 : Int → Option R) : Option R :=
  (bif (decide ((a1.length : Int) > 200)) then k0 2 else (club_CheckClubs_L4 g g.N a1 a1 (a1.length : Int) 0 (fun e16 => k0 e16) (k0 0)))
noncomputable def I_club_CheckClubs [Fuel] : C_club_CheckClubs := ⟨NN, @kit_IsKey _, @club_squaresFault _⟩
noncomputable def club_CheckClubs [Fuel] : T_club_CheckClubs := @club_CheckClubs_ I_club_CheckClubs
def SS_club_CheckClubs (g : T_club_CheckClubs) : Spec A := fun args => match args with | [.d (.sl 106 a1)] => fun k => g a1 (fun z0 => k (.d (.int .i64 z0)) [.undef]) | _ => fun _ => none
def sh_club_CheckClubs_L4 : SSt := mkSh 40 1 [(0, .sl 106), (9, .sl 106), (10, .int .i64), (11, .int .i64)] []
def LP_club_CheckClubs_L4 (g : C_club_CheckClubs) (n : Nat) : LPT A := fun ps => match ps with | [.d (.sl 106 p1), .d (.sl 106 p2), .d (.int .i64 p3), .d (.int .i64 p4)] => fun K => club_CheckClubs_L4 g n p1 p2 p3 p4 (fun z0 => K .ret (mkSt 40 1 [(2, .d (.int .i64 z0))] [])) (K (.exit 0) (mkSt 40 1 [] [])) | _ => fun _ => none
noncomputable def code_32 : Code := (Tryz.f32.body).getD .skip
noncomputable def E_club_CheckClubs (g : C_club_CheckClubs) : Env A := mkE [(79, SS_kit_IsKey g.kit_IsKey), (80, SS_club_squaresFault g.club_squaresFault)] [(4, [0])] [(4, ⟨[0, 9, 10, 11], [], [], []⟩)] [(4, ⟨[2], [], [], []⟩)] [(4, pieceOf sh_club_CheckClubs_L4 (LP_club_CheckClubs_L4 g g.N))] [] [] [] [] []
theorem ct_club_CheckClubs [Fuel] : NatTab (E_club_CheckClubs I_club_CheckClubs).C := ct_of (P := Tryz.prog) (T := T) (.cons ok_kit_IsKey (.cons ok_club_squaresFault .nil)) (by kernel_rfl)
noncomputable def cb_club_CheckClubs_L4 : Code := sub [1, 1, 0, 1, 0, 0] code_32
theorem s_club_CheckClubs_L4 (g : C_club_CheckClubs) (n : Nat) : StepOk (E_club_CheckClubs g) g.N cb_club_CheckClubs_L4 sh_club_CheckClubs_L4 (LP_club_CheckClubs_L4 g) n := by intro ps; unfold LP_club_CheckClubs_L4; split; exact .inr fun R K => (by kernel_rfl); exact .inl fun R K => rfl
theorem lf_club_CheckClubs_L4 [Fuel] : LoopFine (E_club_CheckClubs I_club_CheckClubs) NN cb_club_CheckClubs_L4 := fine_loop sh_club_CheckClubs_L4 (LP_club_CheckClubs_L4 I_club_CheckClubs) (by kernel_rfl) ct_club_CheckClubs (cuts0 (fun _ => rfl) (by kernel_rfl)) (fun ps R K => by unfold LP_club_CheckClubs_L4; split <;> (try unfold club_CheckClubs_L4) <;> rfl) (s_club_CheckClubs_L4 I_club_CheckClubs)
theorem sm_club_CheckClubs (g : C_club_CheckClubs) : Same (SS_club_CheckClubs (@club_CheckClubs_ g)) (abody (E_club_CheckClubs g) Tryz.f32 code_32 1 [] [.asis] g.N) := by intro args; unfold SS_club_CheckClubs; split; exact .inr fun R k => (by kernel_rfl); exact .inl fun R k => rfl
theorem ok_club_CheckClubs [Fuel] : Ok 32 (SS_club_CheckClubs (@club_CheckClubs _)) := okF_of std (.cons ok_kit_IsKey (.cons ok_club_squaresFault .nil)) ⟨rfl, rfl, by kernel_rfl, rfl, rfl, rfl⟩ (sm_club_CheckClubs I_club_CheckClubs) (cutsL (fun _ => rfl) (.cons lf_club_CheckClubs_L4 .nil) (by kernel_rfl)) Tryz.func32 (by kernel_rfl) (by kernel_rfl)
abbrev T_call_isLetter : Type 1 := Int → {R : Type} → (Bool → Option R) → Option R
def call_isLetter_ (g : Nat) (a1 : Int) {R : Type} (k0 : Bool → Option R) : Option R :=
  (bif (decide (a1 ≥ 97)) then k0 (decide (a1 ≤ 122)) else k0 false)
noncomputable def call_isLetter [Fuel] : T_call_isLetter := @call_isLetter_ NN
def SS_call_isLetter (g : T_call_isLetter) : Spec A := fun args => match args with | [.d (.int .u8 a1)] => fun k => g a1 (fun z0 => k (.d (.bool z0)) [.undef]) | _ => fun _ => none
noncomputable def code_229 : Code := (Tryz.f229.body).getD .skip
noncomputable def E_call_isLetter (g : Nat) : Env A := mkE [] [] [] [] [] [] [] [] [] []
theorem sm_call_isLetter (g : Nat) : Same (SS_call_isLetter (@call_isLetter_ g)) (abody (E_call_isLetter g) Tryz.f229 code_229 0 [] [.asis] g) := by intro args; unfold SS_call_isLetter; split; exact .inr fun R k => (by kernel_rfl); exact .inl fun R k => rfl
theorem ok_call_isLetter [Fuel] : Ok 229 (SS_call_isLetter (@call_isLetter _)) := okF_of std .nil ⟨rfl, rfl, by kernel_rfl, rfl, rfl, rfl⟩ (sm_call_isLetter NN) (cuts0 (fun _ => rfl) (by kernel_rfl)) Tryz.func229 (by kernel_rfl) (by kernel_rfl)
abbrev T_call_isDigit : Type 1 := Int → {R : Type} → (Bool → Option R) → Option R
def call_isDigit_ (g : Nat) (a1 : Int) {R : Type} (k0 : Bool → Option R) : Option R :=
  (bif (decide (a1 ≥ 48)) then k0 (decide (a1 ≤ 57)) else k0 false)
noncomputable def call_isDigit [Fuel] : T_call_isDigit := @call_isDigit_ NN
def SS_call_isDigit (g : T_call_isDigit) : Spec A := fun args => match args with | [.d (.int .u8 a1)] => fun k => g a1 (fun z0 => k (.d (.bool z0)) [.undef]) | _ => fun _ => none
noncomputable def code_191 : Code := (Tryz.f191.body).getD .skip
noncomputable def E_call_isDigit (g : Nat) : Env A := mkE [] [] [] [] [] [] [] [] [] []
theorem sm_call_isDigit (g : Nat) : Same (SS_call_isDigit (@call_isDigit_ g)) (abody (E_call_isDigit g) Tryz.f191 code_191 0 [] [.asis] g) := by intro args; unfold SS_call_isDigit; split; exact .inr fun R k => (by kernel_rfl); exact .inl fun R k => rfl
theorem ok_call_isDigit [Fuel] : Ok 191 (SS_call_isDigit (@call_isDigit _)) := okF_of std .nil ⟨rfl, rfl, by kernel_rfl, rfl, rfl, rfl⟩ (sm_call_isDigit NN) (cuts0 (fun _ => rfl) (by kernel_rfl)) Tryz.func191 (by kernel_rfl) (by kernel_rfl)
abbrev T_call_isPlain : Type 1 := List UInt8 → {R : Type} → (Int → Bool → Option R) → Option R
structure C_call_isPlain where
  N : Nat
  call_isDigit : T_call_isDigit
  call_isLetter : T_call_isLetter
def call_isPlain_L2 (g : C_call_isPlain) : Nat → List UInt8 → Int → Int → Int → {R : Type} → (Int → Bool → Option R) → (Int → Option R) → Option R
  | 0, _, _, _, _, _, _, _ => none
  | n + 1, v2, v3, v4, v5, _, e0, e1 => (bif (decide (v5 < v4)) then (get_ v2 v5 fun x10 => (g.call_isLetter (x10.toNat : Int) (fun r11 => (bif r11 then call_isPlain_L2 g n v2 (w64 (v3 + 1)) v4 (w64 (v5 + 1)) e0 e1 else (get_ v2 v5 fun x12 => (g.call_isDigit (x12.toNat : Int) (fun r13 => (bif (!r13) then e0 0 false else call_isPlain_L2 g n v2 v3 v4 (w64 (v5 + 1)) e0 e1)))))))) else e1 v3)
def call_isPlain_ (g : C_call_isPlain) (a1 : List UInt8) {R : Type} (k0 : Int → Bool → Option R) : Option R :=
  (call_isPlain_L2 g g.N a1 0 (a1.length : Int) 0 (fun e14 e15 => k0 e14 e15) (fun e16 => k0 e16 true))
noncomputable def I_call_isPlain [Fuel] : C_call_isPlain := ⟨NN, @call_isDigit _, @call_isLetter _⟩
noncomputable def call_isPlain [Fuel] : T_call_isPlain := @call_isPlain_ I_call_isPlain
def SS_call_isPlain (g : T_call_isPlain) : Spec A := fun args => match args with | [.d (.str a1)] => fun k => g a1 (fun z0 z1 => k (.tup [.d (.int .i64 z0), .d (.bool z1)]) [.undef]) | _ => fun _ => none
def sh_call_isPlain_L2 : SSt := mkSh 25 0 [(0, .str), (2, .int .i64), (6, .int .i64), (7, .int .i64)] []
def LP_call_isPlain_L2 (g : C_call_isPlain) (n : Nat) : LPT A := fun ps => match ps with | [.d (.str p1), .d (.int .i64 p2), .d (.int .i64 p3), .d (.int .i64 p4)] => fun K => call_isPlain_L2 g n p1 p2 p3 p4 (fun z0 z1 => K .ret (mkSt 25 0 [(2, .d (.int .i64 z0)), (3, .d (.bool z1))] [])) (fun z0 => K (.exit 0) (mkSt 25 0 [(2, .d (.int .i64 z0))] [])) | _ => fun _ => none
noncomputable def code_190 : Code := (Tryz.f190.body).getD .skip
noncomputable def E_call_isPlain (g : C_call_isPlain) : Env A := mkE [(191, SS_call_isDigit g.call_isDigit), (229, SS_call_isLetter g.call_isLetter)] [] [(2, ⟨[0, 2, 6, 7], [], [], []⟩)] [(2, ⟨[2, 3], [], [], []⟩)] [(2, pieceOf sh_call_isPlain_L2 (LP_call_isPlain_L2 g g.N))] [] [] [] [] []
theorem ct_call_isPlain [Fuel] : NatTab (E_call_isPlain I_call_isPlain).C := ct_of (P := Tryz.prog) (T := T) (.cons ok_call_isDigit (.cons ok_call_isLetter .nil)) (by kernel_rfl)
noncomputable def cb_call_isPlain_L2 : Code := sub [1, 0, 1, 0, 0] code_190
theorem s_call_isPlain_L2 (g : C_call_isPlain) (n : Nat) : StepOk (E_call_isPlain g) g.N cb_call_isPlain_L2 sh_call_isPlain_L2 (LP_call_isPlain_L2 g) n := by intro ps; unfold LP_call_isPlain_L2; split; exact .inr fun R K => (by kernel_rfl); exact .inl fun R K => rfl
theorem lf_call_isPlain_L2 [Fuel] : LoopFine (E_call_isPlain I_call_isPlain) NN cb_call_isPlain_L2 := fine_loop sh_call_isPlain_L2 (LP_call_isPlain_L2 I_call_isPlain) (by kernel_rfl) ct_call_isPlain (cuts0 (fun _ => rfl) (by kernel_rfl)) (fun ps R K => by unfold LP_call_isPlain_L2; split <;> (try unfold call_isPlain_L2) <;> rfl) (s_call_isPlain_L2 I_call_isPlain)
theorem sm_call_isPlain (g : C_call_isPlain) : Same (SS_call_isPlain (@call_isPlain_ g)) (abody (E_call_isPlain g) Tryz.f190 code_190 0 [] [.asis, .asis] g.N) := by intro args; unfold SS_call_isPlain; split; exact .inr fun R k => (by kernel_rfl); exact .inl fun R k => rfl
theorem ok_call_isPlain [Fuel] : Ok 190 (SS_call_isPlain (@call_isPlain _)) := okF_of std (.cons ok_call_isDigit (.cons ok_call_isLetter .nil)) ⟨rfl, rfl, by kernel_rfl, rfl, rfl, rfl⟩ (sm_call_isPlain I_call_isPlain) (cutsL (fun _ => rfl) (.cons lf_call_isPlain_L2 .nil) (by kernel_rfl)) Tryz.func190 (by kernel_rfl) (by kernel_rfl)
abbrev T_strings_IndexRune : Type 1 := List UInt8 → Int → {R : Type} → (Int → Option R) → Option R
def strings_IndexRune [Fuel] : T_strings_IndexRune := @X_ixr
def SS_strings_IndexRune (g : T_strings_IndexRune) : Spec A := SSX_ixr g
theorem ok_strings_IndexRune [Fuel] : Ok 218 (SS_strings_IndexRune (@strings_IndexRune _)) := ⟨ssx_ixr_sound (ixr_sound (fun s r w h0 h1 => Any.strings_IndexRune_ascii Tryz.lays152 s r w h0 h1)), ssx_ixr_nat, enters_of (fn := Tryz.f218) Tryz.func218 (by kernel_rfl) (by kernel_rfl)⟩
abbrev T_strings_shouldUseASCIISet : Type 1 := Int → {R : Type} → (Bool → Option R) → Option R
def strings_shouldUseASCIISet_ (g : Nat) (a1 : Int) {R : Type} (k0 : Bool → Option R) : Option R :=
  k0 (decide (a1 > 8))
noncomputable def strings_shouldUseASCIISet [Fuel] : T_strings_shouldUseASCIISet := @strings_shouldUseASCIISet_ NN
def SS_strings_shouldUseASCIISet (g : T_strings_shouldUseASCIISet) : Spec A := fun args => match args with | [.d (.int .i64 a1)] => fun k => g a1 (fun z0 => k (.d (.bool z0)) [.undef]) | _ => fun _ => none
noncomputable def code_219 : Code := (Tryz.f219.body).getD .skip
noncomputable def E_strings_shouldUseASCIISet (g : Nat) : Env A := mkE [] [] [] [] [] [] [] [] [] []
theorem sm_strings_shouldUseASCIISet (g : Nat) : Same (SS_strings_shouldUseASCIISet (@strings_shouldUseASCIISet_ g)) (abody (E_strings_shouldUseASCIISet g) Tryz.f219 code_219 0 [] [.asis] g) := by intro args; unfold SS_strings_shouldUseASCIISet; split; exact .inr fun R k => (by kernel_rfl); exact .inl fun R k => rfl
theorem ok_strings_shouldUseASCIISet [Fuel] : Ok 219 (SS_strings_shouldUseASCIISet (@strings_shouldUseASCIISet _)) := okF_of std .nil ⟨rfl, rfl, by kernel_rfl, rfl, rfl, rfl⟩ (sm_strings_shouldUseASCIISet NN) (cuts0 (fun _ => rfl) (by kernel_rfl)) Tryz.func219 (by kernel_rfl) (by kernel_rfl)
abbrev T_strings_makeASCIISet : Type 1 := List UInt8 → {R : Type} → Option R
def strings_makeASCIISet_ (g : Nat) (a1 : List UInt8) {R : Type}  : Option R :=
  none
noncomputable def strings_makeASCIISet [Fuel] : T_strings_makeASCIISet := @strings_makeASCIISet_ NN
def SS_strings_makeASCIISet (g : T_strings_makeASCIISet) : Spec A := fun args => match args with | [.d (.str a1)] => fun k => g a1 | _ => fun _ => none
noncomputable def code_156 : Code := (Tryz.f156.body).getD .skip
noncomputable def E_strings_makeASCIISet (g : Nat) : Env A := mkE [] [] [] [] [] [] [] [] [] []
noncomputable def cb_strings_makeASCIISet_L2 : Code := sub [1, 0, 1, 0, 0] code_156
theorem lf_strings_makeASCIISet_L2 [Fuel] : LoopFine (E_strings_makeASCIISet NN) NN cb_strings_makeASCIISet_L2 := no_loop (by kernel_rfl)
theorem sm_strings_makeASCIISet (g : Nat) : Same (SS_strings_makeASCIISet (@strings_makeASCIISet_ g)) (abody (E_strings_makeASCIISet g) Tryz.f156 code_156 0 [] [.asis, .asis] g) := by intro args; unfold SS_strings_makeASCIISet; split; exact .inr fun R k => (by kernel_rfl); exact .inl fun R k => rfl
theorem ok_strings_makeASCIISet [Fuel] : Ok 156 (SS_strings_makeASCIISet (@strings_makeASCIISet _)) := okF_of std .nil ⟨rfl, rfl, by kernel_rfl, rfl, rfl, rfl⟩ (sm_strings_makeASCIISet NN) (cutsL (fun _ => rfl) (.cons lf_strings_makeASCIISet_L2 .nil) (by kernel_rfl)) Tryz.func156 (by kernel_rfl) (by kernel_rfl)
abbrev T_utf8_RuneStart : Type 1 := Int → {R : Type} → Option R
def utf8_RuneStart_ (g : Nat) (a1 : Int) {R : Type}  : Option R :=
  none
noncomputable def utf8_RuneStart [Fuel] : T_utf8_RuneStart := @utf8_RuneStart_ NN
def SS_utf8_RuneStart (g : T_utf8_RuneStart) : Spec A := fun args => match args with | [.d (.int .u8 a1)] => fun k => g a1 | _ => fun _ => none
noncomputable def code_234 : Code := (Tryz.f234.body).getD .skip
noncomputable def E_utf8_RuneStart (g : Nat) : Env A := mkE [] [] [] [] [] [] [] [] [] []
theorem sm_utf8_RuneStart (g : Nat) : Same (SS_utf8_RuneStart (@utf8_RuneStart_ g)) (abody (E_utf8_RuneStart g) Tryz.f234 code_234 0 [] [.asis] g) := by intro args; unfold SS_utf8_RuneStart; split; exact .inr fun R k => (by kernel_rfl); exact .inl fun R k => rfl
theorem ok_utf8_RuneStart [Fuel] : Ok 234 (SS_utf8_RuneStart (@utf8_RuneStart _)) := okF_of std .nil ⟨rfl, rfl, by kernel_rfl, rfl, rfl, rfl⟩ (sm_utf8_RuneStart NN) (cuts0 (fun _ => rfl) (by kernel_rfl)) Tryz.func234 (by kernel_rfl) (by kernel_rfl)
abbrev T_utf8_decodeRuneInStringSlow : Type 1 := List UInt8 → {R : Type} → (Int → Int → Option R) → Option R
def utf8_decodeRuneInStringSlow_ (g : Nat) (a1 : List UInt8) {R : Type} (k0 : Int → Int → Option R) : Option R :=
  (bif (decide ((a1.length : Int) < 1)) then k0 65533 0 else (at_ a1 0 fun x2 => none))
noncomputable def utf8_decodeRuneInStringSlow [Fuel] : T_utf8_decodeRuneInStringSlow := @utf8_decodeRuneInStringSlow_ NN
def SS_utf8_decodeRuneInStringSlow (g : T_utf8_decodeRuneInStringSlow) : Spec A := fun args => match args with | [.d (.str a1)] => fun k => g a1 (fun z0 z1 => k (.tup [.d (.int .i32 z0), .d (.int .i64 z1)]) [.undef]) | _ => fun _ => none
noncomputable def code_233 : Code := (Tryz.f233.body).getD .skip
noncomputable def E_utf8_decodeRuneInStringSlow (g : Nat) : Env A := mkE [] [] [] [] [] [] [] [] [] []
theorem sm_utf8_decodeRuneInStringSlow (g : Nat) : Same (SS_utf8_decodeRuneInStringSlow (@utf8_decodeRuneInStringSlow_ g)) (abody (E_utf8_decodeRuneInStringSlow g) Tryz.f233 code_233 0 [] [.asis, .asis] g) := by intro args; unfold SS_utf8_decodeRuneInStringSlow; split; exact .inr fun R k => (by kernel_rfl); exact .inl fun R k => rfl
theorem ok_utf8_decodeRuneInStringSlow [Fuel] : Ok 233 (SS_utf8_decodeRuneInStringSlow (@utf8_decodeRuneInStringSlow _)) := okF_of std .nil ⟨rfl, rfl, by kernel_rfl, rfl, rfl, rfl⟩ (sm_utf8_decodeRuneInStringSlow NN) (cuts0 (fun _ => rfl) (by kernel_rfl)) Tryz.func233 (by kernel_rfl) (by kernel_rfl)
abbrev T_utf8_DecodeRuneInString : Type 1 := List UInt8 → {R : Type} → (Int → Int → Option R) → Option R
structure C_utf8_DecodeRuneInString where
  N : Nat
  utf8_decodeRuneInStringSlow : T_utf8_decodeRuneInStringSlow
def utf8_DecodeRuneInString_ (g : C_utf8_DecodeRuneInString) (a1 : List UInt8) {R : Type} (k0 : Int → Int → Option R) : Option R :=
  (bif (!(a1 == [])) then (at_ a1 0 fun x2 => (bif (decide ((x2.toNat : Int) < 128)) then (at_ a1 0 fun x3 => k0 (IntKind.i32.wrap (x3.toNat : Int)) 1) else (g.utf8_decodeRuneInStringSlow a1 (fun r4 r5 => k0 r4 r5)))) else (g.utf8_decodeRuneInStringSlow a1 (fun r6 r7 => k0 r6 r7)))
noncomputable def I_utf8_DecodeRuneInString [Fuel] : C_utf8_DecodeRuneInString := ⟨NN, @utf8_decodeRuneInStringSlow _⟩
noncomputable def utf8_DecodeRuneInString [Fuel] : T_utf8_DecodeRuneInString := @utf8_DecodeRuneInString_ I_utf8_DecodeRuneInString
def SS_utf8_DecodeRuneInString (g : T_utf8_DecodeRuneInString) : Spec A := fun args => match args with | [.d (.str a1)] => fun k => g a1 (fun z0 z1 => k (.tup [.d (.int .i32 z0), .d (.int .i64 z1)]) [.undef]) | _ => fun _ => none
noncomputable def code_203 : Code := (Tryz.f203.body).getD .skip
noncomputable def E_utf8_DecodeRuneInString (g : C_utf8_DecodeRuneInString) : Env A := mkE [(233, SS_utf8_decodeRuneInStringSlow g.utf8_decodeRuneInStringSlow)] [] [] [] [] [] [] [] [] []
theorem sm_utf8_DecodeRuneInString (g : C_utf8_DecodeRuneInString) : Same (SS_utf8_DecodeRuneInString (@utf8_DecodeRuneInString_ g)) (abody (E_utf8_DecodeRuneInString g) Tryz.f203 code_203 0 [] [.asis, .asis] g.N) := by intro args; unfold SS_utf8_DecodeRuneInString; split; exact .inr fun R k => (by kernel_rfl); exact .inl fun R k => rfl
theorem ok_utf8_DecodeRuneInString [Fuel] : Ok 203 (SS_utf8_DecodeRuneInString (@utf8_DecodeRuneInString _)) := okF_of std (.cons ok_utf8_decodeRuneInStringSlow .nil) ⟨rfl, rfl, by kernel_rfl, rfl, rfl, rfl⟩ (sm_utf8_DecodeRuneInString I_utf8_DecodeRuneInString) (cuts0 (fun _ => rfl) (by kernel_rfl)) Tryz.func203 (by kernel_rfl) (by kernel_rfl)
abbrev T_utf8_DecodeLastRuneInString : Type 1 := List UInt8 → {R : Type} → (Int → Int → Option R) → Option R
structure C_utf8_DecodeLastRuneInString where
  N : Nat
  utf8_DecodeRuneInString : T_utf8_DecodeRuneInString
  utf8_RuneStart : T_utf8_RuneStart
def utf8_DecodeLastRuneInString_L10 (g : C_utf8_DecodeLastRuneInString) : Nat → List UInt8 → Int → Int → Int → {R : Type} → (List UInt8 → Int → Int → Option R) → Option R
  | 0, _, _, _, _, _, _ => none
  | n + 1, v3, v4, v5, v6, _, e0 => (bif (decide (v5 ≥ v6)) then (get_ v3 v5 fun x8 => (g.utf8_RuneStart (x8.toNat : Int))) else e0 v3 v4 v5)
def utf8_DecodeLastRuneInString_ (g : C_utf8_DecodeLastRuneInString) (a1 : List UInt8) {R : Type} (k0 : Int → Int → Option R) : Option R :=
  (bif ((a1.length : Int) == 0) then k0 65533 0 else (get_ a1 (w64 ((a1.length : Int) - 1)) fun x2 => (bif (decide ((IntKind.i32.wrap (x2.toNat : Int)) < 128)) then k0 (IntKind.i32.wrap (x2.toNat : Int)) 1 else (utf8_DecodeLastRuneInString_L10 g g.N a1 (a1.length : Int) (w64 ((w64 ((a1.length : Int) - 1)) - 1)) (if 0 > (w64 ((a1.length : Int) - 4)) then 0 else (w64 ((a1.length : Int) - 4))) (fun e9 e10 e11 => (bif (decide (e11 < 0)) then (bif (decide (0 ≤ 0) && (decide (0 ≤ e10) && decide (e10 ≤ (e9.length : Int)))) then (g.utf8_DecodeRuneInString ((e9.take (e10 : Int).toNat).drop (0 : Int).toNat) (fun r12 r13 => (bif ((w64 (0 + r13)) != e10) then k0 65533 1 else k0 r12 r13))) else none) else (bif (decide (0 ≤ e11) && (decide (e11 ≤ e10) && decide (e10 ≤ (e9.length : Int)))) then (g.utf8_DecodeRuneInString ((e9.take (e10 : Int).toNat).drop (e11 : Int).toNat) (fun r14 r15 => (bif ((w64 (e11 + r15)) != e10) then k0 65533 1 else k0 r14 r15))) else none)))))))
noncomputable def I_utf8_DecodeLastRuneInString [Fuel] : C_utf8_DecodeLastRuneInString := ⟨NN, @utf8_DecodeRuneInString _, @utf8_RuneStart _⟩
noncomputable def utf8_DecodeLastRuneInString [Fuel] : T_utf8_DecodeLastRuneInString := @utf8_DecodeLastRuneInString_ I_utf8_DecodeLastRuneInString
def SS_utf8_DecodeLastRuneInString (g : T_utf8_DecodeLastRuneInString) : Spec A := fun args => match args with | [.d (.str a1)] => fun k => g a1 (fun z0 z1 => k (.tup [.d (.int .i32 z0), .d (.int .i64 z1)]) [.undef]) | _ => fun _ => none
def sh_utf8_DecodeLastRuneInString_L10 : SSt := mkSh 51 0 [(0, .str), (4, .int .i64), (5, .int .i64), (6, .int .i64)] []
def LP_utf8_DecodeLastRuneInString_L10 (g : C_utf8_DecodeLastRuneInString) (n : Nat) : LPT A := fun ps => match ps with | [.d (.str p1), .d (.int .i64 p2), .d (.int .i64 p3), .d (.int .i64 p4)] => fun K => utf8_DecodeLastRuneInString_L10 g n p1 p2 p3 p4 (fun z0 z1 z2 => K (.exit 0) (mkSt 51 0 [(0, .d (.str z0)), (4, .d (.int .i64 z1)), (5, .d (.int .i64 z2))] [])) | _ => fun _ => none
noncomputable def code_205 : Code := (Tryz.f205.body).getD .skip
noncomputable def E_utf8_DecodeLastRuneInString (g : C_utf8_DecodeLastRuneInString) : Env A := mkE [(203, SS_utf8_DecodeRuneInString g.utf8_DecodeRuneInString), (234, SS_utf8_RuneStart g.utf8_RuneStart)] [] [(10, ⟨[0, 4, 5, 6], [], [], []⟩)] [(10, ⟨[0, 4, 5], [], [], []⟩)] [(10, pieceOf sh_utf8_DecodeLastRuneInString_L10 (LP_utf8_DecodeLastRuneInString_L10 g g.N))] [] [] [] [] []
theorem ct_utf8_DecodeLastRuneInString [Fuel] : NatTab (E_utf8_DecodeLastRuneInString I_utf8_DecodeLastRuneInString).C := ct_of (P := Tryz.prog) (T := T) (.cons ok_utf8_DecodeRuneInString (.cons ok_utf8_RuneStart .nil)) (by kernel_rfl)
noncomputable def cb_utf8_DecodeLastRuneInString_L10 : Code := sub [1, 1, 1, 1, 1, 1, 1, 0, 1, 0, 0] code_205
theorem s_utf8_DecodeLastRuneInString_L10 (g : C_utf8_DecodeLastRuneInString) (n : Nat) : StepOk (E_utf8_DecodeLastRuneInString g) g.N cb_utf8_DecodeLastRuneInString_L10 sh_utf8_DecodeLastRuneInString_L10 (LP_utf8_DecodeLastRuneInString_L10 g) n := by intro ps; unfold LP_utf8_DecodeLastRuneInString_L10; split; exact .inr fun R K => (by kernel_rfl); exact .inl fun R K => rfl
theorem lf_utf8_DecodeLastRuneInString_L10 [Fuel] : LoopFine (E_utf8_DecodeLastRuneInString I_utf8_DecodeLastRuneInString) NN cb_utf8_DecodeLastRuneInString_L10 := fine_loop sh_utf8_DecodeLastRuneInString_L10 (LP_utf8_DecodeLastRuneInString_L10 I_utf8_DecodeLastRuneInString) (by kernel_rfl) ct_utf8_DecodeLastRuneInString (cuts0 (fun _ => rfl) (by kernel_rfl)) (fun ps R K => by unfold LP_utf8_DecodeLastRuneInString_L10; split <;> (try unfold utf8_DecodeLastRuneInString_L10) <;> rfl) (s_utf8_DecodeLastRuneInString_L10 I_utf8_DecodeLastRuneInString)
theorem sm_utf8_DecodeLastRuneInString (g : C_utf8_DecodeLastRuneInString) : Same (SS_utf8_DecodeLastRuneInString (@utf8_DecodeLastRuneInString_ g)) (abody (E_utf8_DecodeLastRuneInString g) Tryz.f205 code_205 0 [] [.asis, .asis] g.N) := by intro args; unfold SS_utf8_DecodeLastRuneInString; split; exact .inr fun R k => (by kernel_rfl); exact .inl fun R k => rfl
theorem ok_utf8_DecodeLastRuneInString [Fuel] : Ok 205 (SS_utf8_DecodeLastRuneInString (@utf8_DecodeLastRuneInString _)) := okF_of std (.cons ok_utf8_DecodeRuneInString (.cons ok_utf8_RuneStart .nil)) ⟨rfl, rfl, by kernel_rfl, rfl, rfl, rfl⟩ (sm_utf8_DecodeLastRuneInString I_utf8_DecodeLastRuneInString) (cutsL (fun _ => rfl) (.cons lf_utf8_DecodeLastRuneInString_L10 .nil) (by kernel_rfl)) Tryz.func205 (by kernel_rfl) (by kernel_rfl)
abbrev T_strings_LastIndexAny : Type 1 := List UInt8 → List UInt8 → {R : Type} → (Int → Option R) → Option R
structure C_strings_LastIndexAny where
  N : Nat
  strings_makeASCIISet : T_strings_makeASCIISet
  utf8_DecodeLastRuneInString : T_utf8_DecodeLastRuneInString
  strings_IndexRune : T_strings_IndexRune
  strings_shouldUseASCIISet : T_strings_shouldUseASCIISet
def strings_LastIndexAny_L24 (g : C_strings_LastIndexAny) : Nat → List UInt8 → Int → Int → {R : Type} → (Int → Option R) → Option R → Option R
  | 0, _, _, _, _, _, _ => none
  | n + 1, v8, v9, v10, _, e0, e1 => (bif (decide (v10 > 0)) then (bif (decide (0 ≤ v10) && decide (v10 ≤ (v8.length : Int))) then (g.utf8_DecodeLastRuneInString (v8.take (v10 : Int).toNat) (fun r13 r14 => (bif (v9 == r13) then e0 (w64 (v10 - r14)) else strings_LastIndexAny_L24 g n v8 v9 (w64 (v10 - r14)) e0 e1))) else none) else e1)
def strings_LastIndexAny_L31 (g : C_strings_LastIndexAny) : Nat → List UInt8 → List UInt8 → Int → {R : Type} → (Int → Option R) → Option R → Option R
  | 0, _, _, _, _, _, _ => none
  | n + 1, v17, v18, v19, _, e0, e1 => (bif (decide (v19 > 0)) then (bif (decide (0 ≤ v19) && decide (v19 ≤ (v17.length : Int))) then (g.utf8_DecodeLastRuneInString (v17.take (v19 : Int).toNat) (fun r23 r24 => (g.strings_IndexRune v18 r23 (fun r25 => (bif (decide (r25 ≥ 0)) then e0 (w64 (v19 - r24)) else strings_LastIndexAny_L31 g n v17 v18 (w64 (v19 - r24)) e0 e1))))) else none) else e1)
def strings_LastIndexAny_ (g : C_strings_LastIndexAny) (a1 a2 : List UInt8) {R : Type} (k0 : Int → Option R) : Option R :=
  (bif (a2 == []) then k0 (-1) else (bif ((a1.length : Int) == 1) then (at_ a1 0 fun x3 => (bif (decide ((IntKind.i32.wrap (x3.toNat : Int)) ≥ 128)) then (g.strings_IndexRune a2 65533 (fun r4 => (bif (decide (r4 ≥ 0)) then k0 0 else k0 (-1)))) else (g.strings_IndexRune a2 (IntKind.i32.wrap (x3.toNat : Int)) (fun r5 => (bif (decide (r5 ≥ 0)) then k0 0 else k0 (-1)))))) else (g.strings_shouldUseASCIISet (a1.length : Int) (fun r6 => (bif r6 then (g.strings_makeASCIISet a2) else (bif ((a2.length : Int) == 1) then (at_ a2 0 fun x7 => (bif (decide ((IntKind.i32.wrap (x7.toNat : Int)) ≥ 128)) then (strings_LastIndexAny_L24 g g.N a1 65533 (a1.length : Int) (fun e15 => k0 e15) (k0 (-1))) else (strings_LastIndexAny_L24 g g.N a1 (IntKind.i32.wrap (x7.toNat : Int)) (a1.length : Int) (fun e16 => k0 e16) (k0 (-1))))) else (strings_LastIndexAny_L31 g g.N a1 a2 (a1.length : Int) (fun e26 => k0 e26) (k0 (-1)))))))))
noncomputable def I_strings_LastIndexAny [Fuel] : C_strings_LastIndexAny := ⟨NN, @strings_makeASCIISet _, @utf8_DecodeLastRuneInString _, @strings_IndexRune _, @strings_shouldUseASCIISet _⟩
noncomputable def strings_LastIndexAny [Fuel] : T_strings_LastIndexAny := @strings_LastIndexAny_ I_strings_LastIndexAny
def SS_strings_LastIndexAny (g : T_strings_LastIndexAny) : Spec A := fun args => match args with | [.d (.str a1), .d (.str a2)] => fun k => g a1 a2 (fun z0 => k (.d (.int .i64 z0)) [.undef, .undef]) | _ => fun _ => none
def sh_strings_LastIndexAny_L24 : SSt := mkSh 96 0 [(0, .str), (9, .int .i32), (10, .int .i64)] []
def LP_strings_LastIndexAny_L24 (g : C_strings_LastIndexAny) (n : Nat) : LPT A := fun ps => match ps with | [.d (.str p1), .d (.int .i32 p2), .d (.int .i64 p3)] => fun K => strings_LastIndexAny_L24 g n p1 p2 p3 (fun z0 => K .ret (mkSt 96 0 [(4, .d (.int .i64 z0))] [])) (K (.exit 2) (mkSt 96 0 [] [])) | _ => fun _ => none
def sh_strings_LastIndexAny_L31 : SSt := mkSh 96 0 [(0, .str), (1, .str), (13, .int .i64)] []
def LP_strings_LastIndexAny_L31 (g : C_strings_LastIndexAny) (n : Nat) : LPT A := fun ps => match ps with | [.d (.str p1), .d (.str p2), .d (.int .i64 p3)] => fun K => strings_LastIndexAny_L31 g n p1 p2 p3 (fun z0 => K .ret (mkSt 96 0 [(4, .d (.int .i64 z0))] [])) (K (.exit 4) (mkSt 96 0 [] [])) | _ => fun _ => none
noncomputable def code_182 : Code := (Tryz.f182.body).getD .skip
noncomputable def E_strings_LastIndexAny (g : C_strings_LastIndexAny) : Env A := mkE [(156, SS_strings_makeASCIISet g.strings_makeASCIISet), (205, SS_utf8_DecodeLastRuneInString g.utf8_DecodeLastRuneInString), (218, SS_strings_IndexRune g.strings_IndexRune), (219, SS_strings_shouldUseASCIISet g.strings_shouldUseASCIISet)] [] [(24, ⟨[0, 9, 10], [], [], []⟩), (31, ⟨[0, 1, 13], [], [], []⟩)] [(24, ⟨[4], [], [], []⟩), (31, ⟨[4], [], [], []⟩)] [(24, pieceOf sh_strings_LastIndexAny_L24 (LP_strings_LastIndexAny_L24 g g.N)), (31, pieceOf sh_strings_LastIndexAny_L31 (LP_strings_LastIndexAny_L31 g g.N))] [] [] [] [] []
theorem ct_strings_LastIndexAny [Fuel] : NatTab (E_strings_LastIndexAny I_strings_LastIndexAny).C := ct_of (P := Tryz.prog) (T := T) (.cons ok_strings_makeASCIISet (.cons ok_utf8_DecodeLastRuneInString (.cons ok_strings_IndexRune (.cons ok_strings_shouldUseASCIISet .nil)))) (by kernel_rfl)
noncomputable def cb_strings_LastIndexAny_L14 : Code := sub [1, 1, 1, 0, 1, 0, 1, 1, 0, 0, 1, 0, 0] code_182
theorem lf_strings_LastIndexAny_L14 [Fuel] : LoopFine (E_strings_LastIndexAny I_strings_LastIndexAny) NN cb_strings_LastIndexAny_L14 := no_loop (by kernel_rfl)
noncomputable def cb_strings_LastIndexAny_L24 : Code := sub [1, 1, 1, 1, 0, 1, 0, 1, 1, 0, 1, 0, 0] code_182
theorem s_strings_LastIndexAny_L24 (g : C_strings_LastIndexAny) (n : Nat) : StepOk (E_strings_LastIndexAny g) g.N cb_strings_LastIndexAny_L24 sh_strings_LastIndexAny_L24 (LP_strings_LastIndexAny_L24 g) n := by intro ps; unfold LP_strings_LastIndexAny_L24; split; exact .inr fun R K => (by kernel_rfl); exact .inl fun R K => rfl
theorem lf_strings_LastIndexAny_L24 [Fuel] : LoopFine (E_strings_LastIndexAny I_strings_LastIndexAny) NN cb_strings_LastIndexAny_L24 := fine_loop sh_strings_LastIndexAny_L24 (LP_strings_LastIndexAny_L24 I_strings_LastIndexAny) (by kernel_rfl) ct_strings_LastIndexAny (cuts0 (fun _ => rfl) (by kernel_rfl)) (fun ps R K => by unfold LP_strings_LastIndexAny_L24; split <;> (try unfold strings_LastIndexAny_L24) <;> rfl) (s_strings_LastIndexAny_L24 I_strings_LastIndexAny)
noncomputable def cb_strings_LastIndexAny_L31 : Code := sub [1, 1, 1, 1, 1, 0, 1, 0, 0] code_182
theorem s_strings_LastIndexAny_L31 (g : C_strings_LastIndexAny) (n : Nat) : StepOk (E_strings_LastIndexAny g) g.N cb_strings_LastIndexAny_L31 sh_strings_LastIndexAny_L31 (LP_strings_LastIndexAny_L31 g) n := by intro ps; unfold LP_strings_LastIndexAny_L31; split; exact .inr fun R K => (by kernel_rfl); exact .inl fun R K => rfl
theorem lf_strings_LastIndexAny_L31 [Fuel] : LoopFine (E_strings_LastIndexAny I_strings_LastIndexAny) NN cb_strings_LastIndexAny_L31 := fine_loop sh_strings_LastIndexAny_L31 (LP_strings_LastIndexAny_L31 I_strings_LastIndexAny) (by kernel_rfl) ct_strings_LastIndexAny (cuts0 (fun _ => rfl) (by kernel_rfl)) (fun ps R K => by unfold LP_strings_LastIndexAny_L31; split <;> (try unfold strings_LastIndexAny_L31) <;> rfl) (s_strings_LastIndexAny_L31 I_strings_LastIndexAny)
theorem sm_strings_LastIndexAny (g : C_strings_LastIndexAny) : Same (SS_strings_LastIndexAny (@strings_LastIndexAny_ g)) (abody (E_strings_LastIndexAny g) Tryz.f182 code_182 0 [] [.asis] g.N) := by intro args; unfold SS_strings_LastIndexAny; split; exact .inr fun R k => (by kernel_rfl); exact .inl fun R k => rfl
theorem ok_strings_LastIndexAny [Fuel] : Ok 182 (SS_strings_LastIndexAny (@strings_LastIndexAny _)) := okF_of std (.cons ok_strings_makeASCIISet (.cons ok_utf8_DecodeLastRuneInString (.cons ok_strings_IndexRune (.cons ok_strings_shouldUseASCIISet .nil)))) ⟨rfl, rfl, by kernel_rfl, rfl, rfl, rfl⟩ (sm_strings_LastIndexAny I_strings_LastIndexAny) (cutsL (fun _ => rfl) (.cons lf_strings_LastIndexAny_L14 (.cons lf_strings_LastIndexAny_L24 (.cons lf_strings_LastIndexAny_L31 .nil))) (by kernel_rfl)) Tryz.func182 (by kernel_rfl) (by kernel_rfl)
abbrev T_call_split : Type 1 := List UInt8 → {R : Type} → (Int → Bool → Option R) → Option R
structure C_call_split where
  N : Nat
  strings_LastIndexAny : T_strings_LastIndexAny
  call_isPlain : T_call_isPlain
def call_split_ (g : C_call_split) (a1 : List UInt8) {R : Type} (k0 : Int → Bool → Option R) : Option R :=
  (g.call_isPlain a1 (fun r2 r3 => (bif (!r3) then k0 0 false else (bif (decide ((a1.length : Int) > 10)) then k0 0 false else (g.strings_LastIndexAny a1 [48, 49, 50, 51, 52, 53, 54, 55, 56, 57] (fun r4 => (bif (decide (r4 < 1)) then k0 0 false else (bif (decide (r4 > 3)) then k0 0 false else (bif (decide ((w64 ((w64 ((a1.length : Int) - r4)) - 1)) < 1)) then k0 0 false else (bif (decide ((w64 ((w64 ((a1.length : Int) - r4)) - 1)) > 4)) then k0 0 false else (bif (decide (0 ≤ r4) && decide (r4 ≤ (a1.length : Int))) then (g.call_isPlain (a1.take (r4 : Int).toNat) (fun r5 r6 => k0 r4 (decide (r5 > 0)))) else none)))))))))))
noncomputable def I_call_split [Fuel] : C_call_split := ⟨NN, @strings_LastIndexAny _, @call_isPlain _⟩
noncomputable def call_split [Fuel] : T_call_split := @call_split_ I_call_split
def SS_call_split (g : T_call_split) : Spec A := fun args => match args with | [.d (.str a1)] => fun k => g a1 (fun z0 z1 => k (.tup [.d (.int .i64 z0), .d (.bool z1)]) [.undef]) | _ => fun _ => none
noncomputable def code_189 : Code := (Tryz.f189.body).getD .skip
noncomputable def E_call_split (g : C_call_split) : Env A := mkE [(182, SS_strings_LastIndexAny g.strings_LastIndexAny), (190, SS_call_isPlain g.call_isPlain)] [] [] [] [] [] [] [] [] []
theorem sm_call_split (g : C_call_split) : Same (SS_call_split (@call_split_ g)) (abody (E_call_split g) Tryz.f189 code_189 0 [] [.asis, .asis] g.N) := by intro args; unfold SS_call_split; split; exact .inr fun R k => (by kernel_rfl); exact .inl fun R k => rfl
theorem ok_call_split [Fuel] : Ok 189 (SS_call_split (@call_split _)) := okF_of std (.cons ok_strings_LastIndexAny (.cons ok_call_isPlain .nil)) ⟨rfl, rfl, by kernel_rfl, rfl, rfl, rfl⟩ (sm_call_split I_call_split) (cuts0 (fun _ => rfl) (by kernel_rfl)) Tryz.func189 (by kernel_rfl) (by kernel_rfl)
abbrev T_call_based : Type 1 := List UInt8 → {R : Type} → (G_Parts → Bool → Option R) → Option R
structure C_call_based where
  N : Nat
  call_split : T_call_split
def call_based_ (g : C_call_based) (a1 : List UInt8) {R : Type} (k0 : G_Parts → Bool → Option R) : Option R :=
  (g.call_split a1 (fun r2 r3 => (bif (!r3) then k0 (⟨[], [], [], 0, []⟩ : G_Parts) false else (bif (decide (0 ≤ (w64 (r2 + 1))) && decide ((w64 (r2 + 1)) ≤ (a1.length : Int))) then (bif (decide (0 ≤ (w64 (r2 + 1))) && decide ((w64 (r2 + 1)) ≤ (a1.length : Int))) then k0 (⟨a1, (a1.take ((w64 (r2 + 1)) : Int).toNat), (a1.drop ((w64 (r2 + 1)) : Int).toNat), 0, []⟩ : G_Parts) true else none) else none))))
noncomputable def I_call_based [Fuel] : C_call_based := ⟨NN, @call_split _⟩
noncomputable def call_based [Fuel] : T_call_based := @call_based_ I_call_based
def SS_call_based (g : T_call_based) : Spec A := fun args => match args with | [.d (.str a1)] => fun k => g a1 (fun z0 z1 => k (.tup [.agg [.d (.str z0.f_Base), .d (.str z0.f_Prefix), .d (.str z0.f_Suffix), .d (.int .i64 z0.f_Kind), .d (.str z0.f_Added)], .d (.bool z1)]) [.undef]) | _ => fun _ => none
noncomputable def code_144 : Code := (Tryz.f144.body).getD .skip
noncomputable def E_call_based (g : C_call_based) : Env A := mkE [(189, SS_call_split g.call_split)] [(2, [0])] [] [] [] [] [] [] [] []
theorem sm_call_based (g : C_call_based) : Same (SS_call_based (@call_based_ g)) (abody (E_call_based g) Tryz.f144 code_144 1 [] [.asis, .asis] g.N) := by intro args; unfold SS_call_based; split; exact .inr fun R k => (by kernel_rfl); exact .inl fun R k => rfl
theorem ok_call_based [Fuel] : Ok 144 (SS_call_based (@call_based _)) := okF_of std (.cons ok_call_split .nil) ⟨rfl, rfl, by kernel_rfl, rfl, rfl, rfl⟩ (sm_call_based I_call_based) (cuts0 (fun _ => rfl) (by kernel_rfl)) Tryz.func144 (by kernel_rfl) (by kernel_rfl)
abbrev T_stringslite_Index : Type 1 := List UInt8 → List UInt8 → {R : Type} → (Int → Option R) → Option R
def stringslite_Index [Fuel] : T_stringslite_Index := @X_ix1
def SS_stringslite_Index (g : T_stringslite_Index) : Spec A := SSX_ix1 g
theorem ok_stringslite_Index [Fuel] : Ok 217 (SS_stringslite_Index (@stringslite_Index _)) := ⟨ssx_ix1_sound (ix1_sound (Any.stringslite_Index_one Tryz.lays219)), ssx_ix1_nat, enters_of (fn := Tryz.f217) Tryz.func217 (by kernel_rfl) (by kernel_rfl)⟩
abbrev T_stringslite_Cut : Type 1 := List UInt8 → List UInt8 → {R : Type} → (List UInt8 → List UInt8 → Bool → Option R) → Option R
structure C_stringslite_Cut where
  N : Nat
  stringslite_Index : T_stringslite_Index
def stringslite_Cut_ (g : C_stringslite_Cut) (a1 a2 : List UInt8) {R : Type} (k0 : List UInt8 → List UInt8 → Bool → Option R) : Option R :=
  (g.stringslite_Index a1 a2 (fun r3 => (bif (decide (r3 ≥ 0)) then (bif (decide (0 ≤ r3) && decide (r3 ≤ (a1.length : Int))) then (bif (decide (0 ≤ (w64 (r3 + (a2.length : Int)))) && decide ((w64 (r3 + (a2.length : Int))) ≤ (a1.length : Int))) then k0 (a1.take (r3 : Int).toNat) (a1.drop ((w64 (r3 + (a2.length : Int))) : Int).toNat) true else none) else none) else k0 a1 [] false)))
noncomputable def I_stringslite_Cut [Fuel] : C_stringslite_Cut := ⟨NN, @stringslite_Index _⟩
noncomputable def stringslite_Cut [Fuel] : T_stringslite_Cut := @stringslite_Cut_ I_stringslite_Cut
def SS_stringslite_Cut (g : T_stringslite_Cut) : Spec A := fun args => match args with | [.d (.str a1), .d (.str a2)] => fun k => g a1 a2 (fun z0 z1 z2 => k (.tup [.d (.str z0), .d (.str z1), .d (.bool z2)]) [.undef, .undef]) | _ => fun _ => none
noncomputable def code_181 : Code := (Tryz.f181.body).getD .skip
noncomputable def E_stringslite_Cut (g : C_stringslite_Cut) : Env A := mkE [(217, SS_stringslite_Index g.stringslite_Index)] [] [] [] [] [] [] [] [] []
theorem sm_stringslite_Cut (g : C_stringslite_Cut) : Same (SS_stringslite_Cut (@stringslite_Cut_ g)) (abody (E_stringslite_Cut g) Tryz.f181 code_181 0 [] [.asis, .asis, .asis] g.N) := by intro args; unfold SS_stringslite_Cut; split; exact .inr fun R k => (by kernel_rfl); exact .inl fun R k => rfl
theorem ok_stringslite_Cut [Fuel] : Ok 181 (SS_stringslite_Cut (@stringslite_Cut _)) := okF_of std (.cons ok_stringslite_Index .nil) ⟨rfl, rfl, by kernel_rfl, rfl, rfl, rfl⟩ (sm_stringslite_Cut I_stringslite_Cut) (cuts0 (fun _ => rfl) (by kernel_rfl)) Tryz.func181 (by kernel_rfl) (by kernel_rfl)
abbrev T_strings_Cut : Type 1 := List UInt8 → List UInt8 → {R : Type} → (List UInt8 → List UInt8 → Bool → Option R) → Option R
structure C_strings_Cut where
  N : Nat
  stringslite_Cut : T_stringslite_Cut
def strings_Cut_ (g : C_strings_Cut) (a1 a2 : List UInt8) {R : Type} (k0 : List UInt8 → List UInt8 → Bool → Option R) : Option R :=
  (g.stringslite_Cut a1 a2 (fun r3 r4 r5 => k0 r3 r4 r5))
noncomputable def I_strings_Cut [Fuel] : C_strings_Cut := ⟨NN, @stringslite_Cut _⟩
noncomputable def strings_Cut [Fuel] : T_strings_Cut := @strings_Cut_ I_strings_Cut
def SS_strings_Cut (g : T_strings_Cut) : Spec A := fun args => match args with | [.d (.str a1), .d (.str a2)] => fun k => g a1 a2 (fun z0 z1 z2 => k (.tup [.d (.str z0), .d (.str z1), .d (.bool z2)]) [.undef, .undef]) | _ => fun _ => none
noncomputable def code_134 : Code := (Tryz.f134.body).getD .skip
noncomputable def E_strings_Cut (g : C_strings_Cut) : Env A := mkE [(181, SS_stringslite_Cut g.stringslite_Cut)] [] [] [] [] [] [] [] [] []
theorem sm_strings_Cut (g : C_strings_Cut) : Same (SS_strings_Cut (@strings_Cut_ g)) (abody (E_strings_Cut g) Tryz.f134 code_134 0 [] [.asis, .asis, .asis] g.N) := by intro args; unfold SS_strings_Cut; split; exact .inr fun R k => (by kernel_rfl); exact .inl fun R k => rfl
theorem ok_strings_Cut [Fuel] : Ok 134 (SS_strings_Cut (@strings_Cut _)) := okF_of std (.cons ok_stringslite_Cut .nil) ⟨rfl, rfl, by kernel_rfl, rfl, rfl, rfl⟩ (sm_strings_Cut I_strings_Cut) (cuts0 (fun _ => rfl) (by kernel_rfl)) Tryz.func134 (by kernel_rfl) (by kernel_rfl)
abbrev T_call_isBegin : Type 1 := List UInt8 → {R : Type} → (Bool → Option R) → Option R
structure C_call_isBegin where
  N : Nat
  call_isPlain : T_call_isPlain
def call_isBegin_ (g : C_call_isBegin) (a1 : List UInt8) {R : Type} (k0 : Bool → Option R) : Option R :=
  (g.call_isPlain a1 (fun r2 r3 => (bif r3 then (bif (decide (r2 > 0)) then k0 (decide ((a1.length : Int) ≤ 4)) else k0 false) else k0 false)))
noncomputable def I_call_isBegin [Fuel] : C_call_isBegin := ⟨NN, @call_isPlain _⟩
noncomputable def call_isBegin [Fuel] : T_call_isBegin := @call_isBegin_ I_call_isBegin
def SS_call_isBegin (g : T_call_isBegin) : Spec A := fun args => match args with | [.d (.str a1)] => fun k => g a1 (fun z0 => k (.d (.bool z0)) [.undef]) | _ => fun _ => none
noncomputable def code_145 : Code := (Tryz.f145.body).getD .skip
noncomputable def E_call_isBegin (g : C_call_isBegin) : Env A := mkE [(190, SS_call_isPlain g.call_isPlain)] [] [] [] [] [] [] [] [] []
theorem sm_call_isBegin (g : C_call_isBegin) : Same (SS_call_isBegin (@call_isBegin_ g)) (abody (E_call_isBegin g) Tryz.f145 code_145 0 [] [.asis] g.N) := by intro args; unfold SS_call_isBegin; split; exact .inr fun R k => (by kernel_rfl); exact .inl fun R k => rfl
theorem ok_call_isBegin [Fuel] : Ok 145 (SS_call_isBegin (@call_isBegin _)) := okF_of std (.cons ok_call_isPlain .nil) ⟨rfl, rfl, by kernel_rfl, rfl, rfl, rfl⟩ (sm_call_isBegin I_call_isBegin) (cuts0 (fun _ => rfl) (by kernel_rfl)) Tryz.func145 (by kernel_rfl) (by kernel_rfl)
end Go.Am
