/- The functions of the program as Lean functions, each shown to be what the code computes, part 1. No condition: lemmas for the claim. -/
import Derived.Test.YtnkoiigdcbjenaaGreatDoorF0
import Derived.Test.YtnkoiigdcbjenaaGreatDoorFSh
set_option linter.unusedVariables false
set_option maxRecDepth 100000
namespace Go.Am
open Go Go.Proofs
abbrev T_M_Below : Type 1 := Int → Int → {R : Type} → (Int → Option R) → Option R
def M_Below_ (g : Nat) (a1 a2 : Int) {R : Type} (k0 : Int → Option R) : Option R :=
  (bif (decide (a2 < 1)) then k0 0 else (bif (a2 == 0) then none else (bif (decide ((Int.tmod a1 a2) < 0)) then k0 (w64 ((Int.tmod a1 a2) + a2)) else k0 (Int.tmod a1 a2))))
noncomputable def M_Below [Fuel] : T_M_Below := @M_Below_ NN
def SS_M_Below (g : T_M_Below) : Spec A := fun args => match args with | [.d (.int .i64 a1), .d (.int .i64 a2)] => fun k => g a1 a2 (fun z0 => k (.d (.int .i64 z0)) [.undef, .undef]) | _ => fun _ => none
noncomputable def code_48 : Code := (Tryz.f48.body).getD .skip
noncomputable def E_M_Below (g : Nat) : Env A := mkE [] [] [] [] [] [] [] [] [] []
theorem sm_M_Below (g : Nat) : Same (SS_M_Below (@M_Below_ g)) (abody (E_M_Below g) Tryz.f48 code_48 0 [] [.asis] g) := by intro args; unfold SS_M_Below; split; exact .inr fun R k => (by kernel_rfl); exact .inl fun R k => rfl
theorem ok_M_Below [Fuel] : Ok 48 (SS_M_Below (@M_Below _)) := okF_of std .nil ⟨rfl, rfl, by kernel_rfl, rfl, rfl, rfl⟩ (sm_M_Below NN) (cuts0 (fun _ => rfl) (by kernel_rfl)) Tryz.func48 (by kernel_rfl) (by kernel_rfl)
abbrev T_Stream_Next : Type 1 := G_Stream → Int → {R : Type} → (Int → G_Stream → Option R) → Option R
structure C_Stream_Next where
  N : Nat
  M_Below : T_M_Below
def Stream_Next_ (g : C_Stream_Next) (a1 : G_Stream) (a2 : Int) {R : Type} (k0 : Int → G_Stream → Option R) : Option R :=
  (bif ((a1.f_L.length : Int) == 0) then (g.M_Below (w64 ((w64 (a1.f_at + 1)) * 7919)) a2 (fun r3 => k0 r3 (⟨a1.f_L, (w64 (a1.f_at + 1))⟩ : G_Stream))) else (bif ((a1.f_L.length : Int) == 0) then none else (bif ((a1.f_L.length : Int) == 0) then none else (get_ a1.f_L (Int.tmod (w64 ((w64 (a1.f_at + 1)) - 1)) (a1.f_L.length : Int)) fun x4 => (g.M_Below x4 1073741824 (fun r5 => (g.M_Below (w64 (r5 + (w64 ((w64 (Int.tdiv (w64 ((w64 (a1.f_at + 1)) - 1)) (a1.f_L.length : Int))) * (w64 (7919 + (Int.tmod (w64 ((w64 (a1.f_at + 1)) - 1)) (a1.f_L.length : Int)))))))) a2 (fun r6 => k0 r6 (⟨a1.f_L, (w64 (a1.f_at + 1))⟩ : G_Stream)))))))))
noncomputable def I_Stream_Next [Fuel] : C_Stream_Next := ⟨NN, @M_Below _⟩
noncomputable def Stream_Next [Fuel] : T_Stream_Next := @Stream_Next_ I_Stream_Next
def SS_Stream_Next (g : T_Stream_Next) : Spec A := fun args => match args with | [.box [.d (.sl 3 a1), .d (.int .i64 a2)], .d (.int .i64 a3)] => fun k => g ⟨a1, a2⟩ a3 (fun z0 z1 => k (.d (.int .i64 z0)) [.box [.d (.sl 3 z1.f_L), .d (.int .i64 z1.f_at)], .undef]) | _ => fun _ => none
noncomputable def code_10 : Code := (Tryz.f10.body).getD .skip
noncomputable def E_Stream_Next (g : C_Stream_Next) : Env A := mkE [(48, SS_M_Below g.M_Below)] [] [] [] [] [] [] [] [] [0]
theorem sm_Stream_Next (g : C_Stream_Next) : Same (SS_Stream_Next (@Stream_Next_ g)) (abody (E_Stream_Next g) Tryz.f10 code_10 1 [0] [.asis] g.N) := by intro args; unfold SS_Stream_Next; split; exact .inr fun R k => (by kernel_rfl); exact .inl fun R k => rfl
theorem ok_Stream_Next [Fuel] : Ok 10 (SS_Stream_Next (@Stream_Next _)) := okF_of std (.cons ok_M_Below .nil) ⟨rfl, rfl, by kernel_rfl, rfl, rfl, rfl⟩ (sm_Stream_Next I_Stream_Next) (cuts0 (fun _ => rfl) (by kernel_rfl)) Tryz.func10 (by kernel_rfl) (by kernel_rfl)
abbrev T_Stream_Flip : Type 1 := G_Stream → Int → {R : Type} → (Bool → G_Stream → Option R) → Option R
structure C_Stream_Flip where
  N : Nat
  Stream_Next : T_Stream_Next
def Stream_Flip_ (g : C_Stream_Flip) (a1 : G_Stream) (a2 : Int) {R : Type} (k0 : Bool → G_Stream → Option R) : Option R :=
  (g.Stream_Next a1 a2 (fun r3 r4 => k0 (r3 == 0) r4))
noncomputable def I_Stream_Flip [Fuel] : C_Stream_Flip := ⟨NN, @Stream_Next _⟩
noncomputable def Stream_Flip [Fuel] : T_Stream_Flip := @Stream_Flip_ I_Stream_Flip
def SS_Stream_Flip (g : T_Stream_Flip) : Spec A := fun args => match args with | [.box [.d (.sl 3 a1), .d (.int .i64 a2)], .d (.int .i64 a3)] => fun k => g ⟨a1, a2⟩ a3 (fun z0 z1 => k (.d (.bool z0)) [.box [.d (.sl 3 z1.f_L), .d (.int .i64 z1.f_at)], .undef]) | _ => fun _ => none
noncomputable def code_42 : Code := (Tryz.f42.body).getD .skip
noncomputable def E_Stream_Flip (g : C_Stream_Flip) : Env A := mkE [(10, SS_Stream_Next g.Stream_Next)] [] [] [] [] [] [] [] [] [0]
theorem sm_Stream_Flip (g : C_Stream_Flip) : Same (SS_Stream_Flip (@Stream_Flip_ g)) (abody (E_Stream_Flip g) Tryz.f42 code_42 1 [0] [.asis] g.N) := by intro args; unfold SS_Stream_Flip; split; exact .inr fun R k => (by kernel_rfl); exact .inl fun R k => rfl
theorem ok_Stream_Flip [Fuel] : Ok 42 (SS_Stream_Flip (@Stream_Flip _)) := okF_of std (.cons ok_Stream_Next .nil) ⟨rfl, rfl, by kernel_rfl, rfl, rfl, rfl⟩ (sm_Stream_Flip I_Stream_Flip) (cuts0 (fun _ => rfl) (by kernel_rfl)) Tryz.func42 (by kernel_rfl) (by kernel_rfl)
abbrev T_Stream_RightClubs : Type 1 := G_Stream → {R : Type} → (List G_Club → G_Stream → Option R) → Option R
structure C_Stream_RightClubs where
  N : Nat
  Stream_Flip : T_Stream_Flip
def Stream_RightClubs_L8 (g : C_Stream_RightClubs) : Nat → Int → Int → Int → Int → G_Stream → List (List UInt8) → List G_Club → List UInt8 → List (List UInt8) → List (List UInt8) → {R : Type} → (Int → Int → G_Stream → List (List UInt8) → List G_Club → List UInt8 → List (List UInt8) → Option R) → Option R
  | 0, _, _, _, _, _, _, _, _, _, _, _, _ => none
  | n + 1, v36, v37, v38, v39, v40, v41, v42, v43, v44, v45, _, e0 => (bif (decide (v39 < v38)) then (inr v44 v39 (at_ v44 v39 fun x49 => (g.Stream_Flip v40 3 (fun r50 r51 => (bif r50 then (bif (decide ((v45.length + [x49].length) * 16 ≤ roomBytes')) then Stream_RightClubs_L8 g n v36 v37 v38 (w64 (v39 + 1)) r51 v41 v42 v43 v44 (v45 ++ [x49]) e0 else none) else Stream_RightClubs_L8 g n v36 v37 v38 (w64 (v39 + 1)) r51 v41 v42 v43 v44 v45 e0))))) else e0 v36 v37 v40 v41 v42 v43 v45)
def Stream_RightClubs_L3 (g : C_Stream_RightClubs) : Nat → Int → Int → G_Stream → List (List UInt8) → List G_Club → {R : Type} → (G_Stream → List G_Club → Option R) → Option R
  | 0, _, _, _, _, _, _, _ => none
  | n + 1, v2, v3, v4, v5, v6, _, e0 => (bif (decide (v3 < v2)) then (inr v5 v3 (at_ v5 v3 fun x33 => (g.Stream_Flip v4 6 (fun r34 r35 => (bif r34 then Stream_RightClubs_L3 g n v2 (w64 (v3 + 1)) r35 v5 v6 e0 else (Stream_RightClubs_L8 g g.N v2 v3 ([[106, 111, 54, 50], [107, 112], [107, 112, 50, 48], [107, 112, 50, 48, 108, 102]].length : Int) 0 r35 v5 v6 x33 [[106, 111, 54, 50], [107, 112], [107, 112, 50, 48], [107, 112, 50, 48, 108, 102]] [] (fun e52 e53 e54 e55 e56 e57 e58 => (bif (decide ((e56.length + [(⟨e57, e58⟩ : G_Club)].length) * 40 ≤ roomBytes')) then Stream_RightClubs_L3 g n e52 (w64 (e53 + 1)) e54 e55 (e56 ++ [(⟨e57, e58⟩ : G_Club)]) e0 else none)))))))) else e0 v4 v6)
def Stream_RightClubs_ (g : C_Stream_RightClubs) (a1 : G_Stream) {R : Type} (k0 : List G_Club → G_Stream → Option R) : Option R :=
  (Stream_RightClubs_L3 g g.N ([[101, 97, 115, 116], [110, 111, 114, 116, 104], [119, 101, 115, 116]].length : Int) 0 a1 [[101, 97, 115, 116], [110, 111, 114, 116, 104], [119, 101, 115, 116]] [] (fun e59 e60 => k0 e60 e59))
noncomputable def I_Stream_RightClubs [Fuel] : C_Stream_RightClubs := ⟨NN, @Stream_Flip _⟩
noncomputable def Stream_RightClubs [Fuel] : T_Stream_RightClubs := @Stream_RightClubs_ I_Stream_RightClubs
def SS_Stream_RightClubs (g : T_Stream_RightClubs) : Spec A := fun args => match args with | [.box [.d (.sl 3 a1), .d (.int .i64 a2)]] => fun k => g ⟨a1, a2⟩ (fun z0 z1 => k (.arr 106 z0) [.box [.d (.sl 3 z1.f_L), .d (.int .i64 z1.f_at)]]) | _ => fun _ => none
def sh_Stream_RightClubs_L8 : SSt := mkSh 40 10 [(0, .ptr 0 0), (3, .own 106 2), (6, .ptr 3 0), (9, .own 9 1), (10, .int .i64), (11, .int .i64), (19, .own 9 4), (20, .int .i64), (21, .int .i64)] [(0, .box [.sl 3, .int .i64]), (1, .row 9), (2, .row 106), (3, .box [.str, .own 9 5]), (4, .row 9), (5, .row 9)]
def LP_Stream_RightClubs_L8 (g : C_Stream_RightClubs) (n : Nat) : LPT A := fun ps => match ps with | [.d (.int .i64 p1), .d (.int .i64 p2), .d (.int .i64 p3), .d (.int .i64 p4), .d (.sl 3 p5), .d (.int .i64 p6), .d (.sl 9 p7), .d (.sl 106 p8), .d (.str p9), .d (.sl 9 p10), .d (.sl 9 p11)] => fun K => Stream_RightClubs_L8 g n p1 p2 p3 p4 ⟨p5, p6⟩ p7 p8 p9 p10 p11 (fun z0 z1 z2 z3 z4 z5 z6 => K (.exit 2) (mkSt 40 10 [(0, .ptr 0 0), (3, .own 106 2), (6, .ptr 3 0), (9, .own 9 1), (10, .d (.int .i64 z0)), (11, .d (.int .i64 z1))] [(0, some (.box [.d (.sl 3 z2.f_L), .d (.int .i64 z2.f_at)])), (1, some (.row 9 z3)), (2, some (.row 106 z4)), (3, some (.box [.d (.str z5), .own 9 5])), (5, some (.row 9 z6))])) | _ => fun _ => none
def sh_Stream_RightClubs_L3 : SSt := mkSh 40 10 [(0, .ptr 0 0), (3, .own 106 2), (9, .own 9 1), (10, .int .i64), (11, .int .i64)] [(0, .box [.sl 3, .int .i64]), (1, .row 9), (2, .row 106)]
def LP_Stream_RightClubs_L3 (g : C_Stream_RightClubs) (n : Nat) : LPT A := fun ps => match ps with | [.d (.int .i64 p1), .d (.int .i64 p2), .d (.sl 3 p3), .d (.int .i64 p4), .d (.sl 9 p5), .d (.sl 106 p6)] => fun K => Stream_RightClubs_L3 g n p1 p2 ⟨p3, p4⟩ p5 p6 (fun z0 z1 => K (.exit 0) (mkSt 40 10 [(0, .ptr 0 0), (3, .own 106 2)] [(0, some (.box [.d (.sl 3 z0.f_L), .d (.int .i64 z0.f_at)])), (2, some (.row 106 z1))])) | _ => fun _ => none
noncomputable def code_61 : Code := (Tryz.f61.body).getD .skip
noncomputable def E_Stream_RightClubs (g : C_Stream_RightClubs) : Env A := mkE [(42, SS_Stream_Flip g.Stream_Flip)] [(6, [3]), (9, [1]), (19, [4]), (30, [6]), (31, [7]), (36, [8]), (37, [9])] [(8, ⟨[0, 3, 6, 9, 10, 11, 19, 20, 21], [], [0, 1, 2, 3, 4], [(3, 1, 9, 5)]⟩), (3, ⟨[0, 3, 9, 10, 11], [(3, 106, 2)], [0, 1], []⟩)] [(8, ⟨[0, 3, 6, 9, 10, 11], [], [0, 1, 2, 3, 5], []⟩), (3, ⟨[0, 3], [], [0, 2], []⟩)] [(8, pieceOf sh_Stream_RightClubs_L8 (LP_Stream_RightClubs_L8 g g.N)), (3, pieceOf sh_Stream_RightClubs_L3 (LP_Stream_RightClubs_L3 g g.N))] [] [] [] [] [0]
theorem ct_Stream_RightClubs [Fuel] : NatTab (E_Stream_RightClubs I_Stream_RightClubs).C := ct_of (P := Tryz.prog) (T := T) (.cons ok_Stream_Flip .nil) (by kernel_rfl)
noncomputable def cb_Stream_RightClubs_L8 : Code := sub [1, 1, 0, 1, 0, 0, 1, 1, 0, 0, 1, 1, 1, 0, 1, 0, 0] code_61
theorem s_Stream_RightClubs_L8 (g : C_Stream_RightClubs) (n : Nat) : StepOk (E_Stream_RightClubs g) g.N cb_Stream_RightClubs_L8 sh_Stream_RightClubs_L8 (LP_Stream_RightClubs_L8 g) n := by intro ps; unfold LP_Stream_RightClubs_L8; split; exact .inr fun R K => (by kernel_rfl); exact .inl fun R K => rfl
theorem lf_Stream_RightClubs_L8 [Fuel] : LoopFine (E_Stream_RightClubs I_Stream_RightClubs) NN cb_Stream_RightClubs_L8 := fine_loop sh_Stream_RightClubs_L8 (LP_Stream_RightClubs_L8 I_Stream_RightClubs) (by kernel_rfl) ct_Stream_RightClubs (cuts0 (fun _ => rfl) (by kernel_rfl)) (fun ps R K => by unfold LP_Stream_RightClubs_L8; split <;> (try unfold Stream_RightClubs_L8) <;> rfl) (s_Stream_RightClubs_L8 I_Stream_RightClubs)
noncomputable def cb_Stream_RightClubs_L3 : Code := sub [1, 1, 0, 1, 0, 0] code_61
theorem s_Stream_RightClubs_L3 (g : C_Stream_RightClubs) (n : Nat) : StepOk (E_Stream_RightClubs g) g.N cb_Stream_RightClubs_L3 sh_Stream_RightClubs_L3 (LP_Stream_RightClubs_L3 g) n := by intro ps; unfold LP_Stream_RightClubs_L3; split; exact .inr fun R K => (by kernel_rfl); exact .inl fun R K => rfl
theorem lf_Stream_RightClubs_L3 [Fuel] : LoopFine (E_Stream_RightClubs I_Stream_RightClubs) NN cb_Stream_RightClubs_L3 := fine_loop sh_Stream_RightClubs_L3 (LP_Stream_RightClubs_L3 I_Stream_RightClubs) (by kernel_rfl) ct_Stream_RightClubs (cutsL (fun _ => rfl) (.cons lf_Stream_RightClubs_L8 .nil) (by kernel_rfl)) (fun ps R K => by unfold LP_Stream_RightClubs_L3; split <;> (try unfold Stream_RightClubs_L3) <;> rfl) (s_Stream_RightClubs_L3 I_Stream_RightClubs)
theorem sm_Stream_RightClubs (g : C_Stream_RightClubs) : Same (SS_Stream_RightClubs (@Stream_RightClubs_ g)) (abody (E_Stream_RightClubs g) Tryz.f61 code_61 10 [0] [.arr 106] g.N) := by intro args; unfold SS_Stream_RightClubs; split; exact .inr fun R k => (by kernel_rfl); exact .inl fun R k => rfl
theorem ok_Stream_RightClubs [Fuel] : Ok 61 (SS_Stream_RightClubs (@Stream_RightClubs _)) := okF_of std (.cons ok_Stream_Flip .nil) ⟨rfl, rfl, by kernel_rfl, rfl, rfl, rfl⟩ (sm_Stream_RightClubs I_Stream_RightClubs) (cutsL (fun _ => rfl) (.cons lf_Stream_RightClubs_L8 (.cons lf_Stream_RightClubs_L3 .nil)) (by kernel_rfl)) Tryz.func61 (by kernel_rfl) (by kernel_rfl)
abbrev T_Stream_Some : Type 1 := G_Stream → List (List UInt8) → {R : Type} → (List UInt8 → G_Stream → Option R) → Option R
structure C_Stream_Some where
  N : Nat
  Stream_Next : T_Stream_Next
def Stream_Some_ (g : C_Stream_Some) (a1 : G_Stream) (a2 : List (List UInt8)) {R : Type} (k0 : List UInt8 → G_Stream → Option R) : Option R :=
  (g.Stream_Next a1 (a2.length : Int) (fun r3 r4 => (get_ a2 r3 fun x5 => k0 x5 r4)))
noncomputable def I_Stream_Some [Fuel] : C_Stream_Some := ⟨NN, @Stream_Next _⟩
noncomputable def Stream_Some [Fuel] : T_Stream_Some := @Stream_Some_ I_Stream_Some
def SS_Stream_Some (g : T_Stream_Some) : Spec A := fun args => match args with | [.box [.d (.sl 3 a1), .d (.int .i64 a2)], .d (.sl 9 a3)] => fun k => g ⟨a1, a2⟩ a3 (fun z0 z1 => k (.d (.str z0)) [.box [.d (.sl 3 z1.f_L), .d (.int .i64 z1.f_at)], .undef]) | _ => fun _ => none
noncomputable def code_43 : Code := (Tryz.f43.body).getD .skip
noncomputable def E_Stream_Some (g : C_Stream_Some) : Env A := mkE [(10, SS_Stream_Next g.Stream_Next)] [] [] [] [] [] [] [] [] [0]
theorem sm_Stream_Some (g : C_Stream_Some) : Same (SS_Stream_Some (@Stream_Some_ g)) (abody (E_Stream_Some g) Tryz.f43 code_43 1 [0] [.asis] g.N) := by intro args; unfold SS_Stream_Some; split; exact .inr fun R k => (by kernel_rfl); exact .inl fun R k => rfl
theorem ok_Stream_Some [Fuel] : Ok 43 (SS_Stream_Some (@Stream_Some _)) := okF_of std (.cons ok_Stream_Next .nil) ⟨rfl, rfl, by kernel_rfl, rfl, rfl, rfl⟩ (sm_Stream_Some I_Stream_Some) (cuts0 (fun _ => rfl) (by kernel_rfl)) Tryz.func43 (by kernel_rfl) (by kernel_rfl)
abbrev T_slices_Clone__string : Type 1 := List (List UInt8) → {R : Type} → (List (List UInt8) → Option R) → Option R
def slices_Clone__string [Fuel] : T_slices_Clone__string := @X_clone (List UInt8) 16
def SS_slices_Clone__string (g : T_slices_Clone__string) : Spec A := fun args => match args with | [.d (.sl 9 x1)] => fun k => g x1 (fun z => k (.arr 9 z) [.undef]) | _ => fun _ => none
theorem h1_slices_Clone__string [Fuel] (xs : List (A 9)) (R : Type) (k : IV A → List (IV A) → Option R) : SS_slices_Clone__string (@slices_Clone__string _) [.d (.sl 9 xs)] k = X_clone 16 xs (fun z => k (.arr 9 z) [.undef]) := by kernel_rfl
theorem h2_slices_Clone__string [Fuel] (args : List (IV A)) (R : Type) (k : IV A → List (IV A) → Option R) (h : ∀ xs : List (A 9), args ≠ [.d (.sl 9 xs)]) : SS_slices_Clone__string (@slices_Clone__string _) args k = none := by unfold SS_slices_Clone__string; split; exact absurd rfl (h _); rfl
theorem ok_slices_Clone__string [Fuel] : Ok 62 (SS_slices_Clone__string (@slices_Clone__string _)) := ⟨clone_fs (clone_sound rfl (tyOk Tryz.prog) (e := 9) (size := 1) (bytes := 16) (ty := 9) (by kernel_rfl) (fun n c w => AnyE.slices_Clone_nil Tryz.clone62 n c w) (fun b off n c news w h1 h2 h3 h4 h5 => AnyE.slices_Clone Tryz.clone62 Tryz.ti9 Tryz.zv9 1 16 (by kernel_rfl) (by kernel_rfl) (by kernel_rfl) (by kernel_rfl) (by kernel_rfl) (by decide) Tryz.sizeOf9 b off n c news w h1 h2 h3 h4 h5)) h1_slices_Clone__string h2_slices_Clone__string, clone_na h1_slices_Clone__string h2_slices_Clone__string, enters_of (fn := Tryz.f62) Tryz.func62 (by kernel_rfl) (by kernel_rfl)⟩
abbrev T_Stream_ClubList : Type 1 := G_Stream → {R : Type} → (List G_Club → G_Stream → Option R) → Option R
structure C_Stream_ClubList where
  N : Nat
  Stream_Next : T_Stream_Next
  Stream_Flip : T_Stream_Flip
  Stream_Some : T_Stream_Some
  Stream_RightClubs : T_Stream_RightClubs
  slices_Clone__string : T_slices_Clone__string
def Stream_ClubList_ (g : C_Stream_ClubList) (a1 : G_Stream) {R : Type} (k0 : List G_Club → G_Stream → Option R) : Option R :=
  (g.Stream_RightClubs a1 (fun r2 r3 => (bif (decide ((r2.length : Int) > 0)) then (g.Stream_Flip r3 12 (fun r4 r5 => (bif r4 then (g.Stream_Next r5 (r2.length : Int) (fun r6 r7 => (inr r2 r6 (at_ r2 r6 fun x8 => (g.Stream_Some r7 [x8.f_Key, [], [101, 97, 115, 116]] (fun r9 r10 => (at_ r2 r6 fun x11 => (at_ (set_ r2 r6 (⟨r9, x11.f_Squares⟩ : G_Club)) r6 fun x12 => (g.slices_Clone__string x12.f_Squares (fun r13 => (g.Stream_Some r10 [[122, 122], [107, 112, 50], [107, 112, 50, 48, 108, 102, 120], [75, 80], [114, 114, 57, 57, 120, 120], [97, 97], [115, 97]] (fun r14 r15 => (bif (decide ((r13.length + [r14].length) * 16 ≤ roomBytes')) then (at_ (set_ r2 r6 (⟨r9, x11.f_Squares⟩ : G_Club)) r6 fun x16 => k0 (set_ (set_ r2 r6 (⟨r9, x11.f_Squares⟩ : G_Club)) r6 (⟨x16.f_Key, (r13 ++ [r14])⟩ : G_Club)) r15) else none))))))))))))) else k0 r2 r5))) else k0 r2 r3)))
noncomputable def I_Stream_ClubList [Fuel] : C_Stream_ClubList := ⟨NN, @Stream_Next _, @Stream_Flip _, @Stream_Some _, @Stream_RightClubs _, @slices_Clone__string _⟩
noncomputable def Stream_ClubList [Fuel] : T_Stream_ClubList := @Stream_ClubList_ I_Stream_ClubList
def SS_Stream_ClubList (g : T_Stream_ClubList) : Spec A := fun args => match args with | [.box [.d (.sl 3 a1), .d (.int .i64 a2)]] => fun k => g ⟨a1, a2⟩ (fun z0 z1 => k (.arr 106 z0) [.box [.d (.sl 3 z1.f_L), .d (.int .i64 z1.f_at)]]) | _ => fun _ => none
noncomputable def code_22 : Code := (Tryz.f22.body).getD .skip
noncomputable def E_Stream_ClubList (g : C_Stream_ClubList) : Env A := mkE [(10, SS_Stream_Next g.Stream_Next), (42, SS_Stream_Flip g.Stream_Flip), (43, SS_Stream_Some g.Stream_Some), (61, SS_Stream_RightClubs g.Stream_RightClubs), (62, SS_slices_Clone__string g.slices_Clone__string)] [(6, [1]), (26, [2]), (35, [3]), (37, [4]), (39, [5]), (40, [6])] [] [] [] [] [] [] [] [0]
theorem sm_Stream_ClubList (g : C_Stream_ClubList) : Same (SS_Stream_ClubList (@Stream_ClubList_ g)) (abody (E_Stream_ClubList g) Tryz.f22 code_22 7 [0] [.arr 106] g.N) := by intro args; unfold SS_Stream_ClubList; split; exact .inr fun R k => (by kernel_rfl); exact .inl fun R k => rfl
theorem ok_Stream_ClubList [Fuel] : Ok 22 (SS_Stream_ClubList (@Stream_ClubList _)) := okF_of std (.cons ok_Stream_Next (.cons ok_Stream_Flip (.cons ok_Stream_Some (.cons ok_Stream_RightClubs (.cons ok_slices_Clone__string .nil))))) ⟨rfl, rfl, by kernel_rfl, rfl, rfl, rfl⟩ (sm_Stream_ClubList I_Stream_ClubList) (cuts0 (fun _ => rfl) (by kernel_rfl)) Tryz.func22 (by kernel_rfl) (by kernel_rfl)
abbrev T_Stream_Range : Type 1 := G_Stream → Int → Int → {R : Type} → (Int → G_Stream → Option R) → Option R
structure C_Stream_Range where
  N : Nat
  Stream_Next : T_Stream_Next
def Stream_Range_ (g : C_Stream_Range) (a1 : G_Stream) (a2 a3 : Int) {R : Type} (k0 : Int → G_Stream → Option R) : Option R :=
  (bif (decide (a3 < a2)) then k0 a2 a1 else (g.Stream_Next a1 (w64 ((w64 (a3 - a2)) + 1)) (fun r4 r5 => k0 (w64 (a2 + r4)) r5)))
noncomputable def I_Stream_Range [Fuel] : C_Stream_Range := ⟨NN, @Stream_Next _⟩
noncomputable def Stream_Range [Fuel] : T_Stream_Range := @Stream_Range_ I_Stream_Range
def SS_Stream_Range (g : T_Stream_Range) : Spec A := fun args => match args with | [.box [.d (.sl 3 a1), .d (.int .i64 a2)], .d (.int .i64 a3), .d (.int .i64 a4)] => fun k => g ⟨a1, a2⟩ a3 a4 (fun z0 z1 => k (.d (.int .i64 z0)) [.box [.d (.sl 3 z1.f_L), .d (.int .i64 z1.f_at)], .undef, .undef]) | _ => fun _ => none
noncomputable def code_8 : Code := (Tryz.f8.body).getD .skip
noncomputable def E_Stream_Range (g : C_Stream_Range) : Env A := mkE [(10, SS_Stream_Next g.Stream_Next)] [] [] [] [] [] [] [] [] [0]
theorem sm_Stream_Range (g : C_Stream_Range) : Same (SS_Stream_Range (@Stream_Range_ g)) (abody (E_Stream_Range g) Tryz.f8 code_8 1 [0] [.asis] g.N) := by intro args; unfold SS_Stream_Range; split; exact .inr fun R k => (by kernel_rfl); exact .inl fun R k => rfl
theorem ok_Stream_Range [Fuel] : Ok 8 (SS_Stream_Range (@Stream_Range _)) := okF_of std (.cons ok_Stream_Next .nil) ⟨rfl, rfl, by kernel_rfl, rfl, rfl, rfl⟩ (sm_Stream_Range I_Stream_Range) (cuts0 (fun _ => rfl) (by kernel_rfl)) Tryz.func8 (by kernel_rfl) (by kernel_rfl)
abbrev T_Stream_Pick : Type 1 := G_Stream → List Int → {R : Type} → (Int → G_Stream → Option R) → Option R
structure C_Stream_Pick where
  N : Nat
  Stream_Next : T_Stream_Next
def Stream_Pick_ (g : C_Stream_Pick) (a1 : G_Stream) (a2 : List Int) {R : Type} (k0 : Int → G_Stream → Option R) : Option R :=
  (g.Stream_Next a1 (a2.length : Int) (fun r3 r4 => (get_ a2 r3 fun x5 => k0 x5 r4)))
noncomputable def I_Stream_Pick [Fuel] : C_Stream_Pick := ⟨NN, @Stream_Next _⟩
noncomputable def Stream_Pick [Fuel] : T_Stream_Pick := @Stream_Pick_ I_Stream_Pick
def SS_Stream_Pick (g : T_Stream_Pick) : Spec A := fun args => match args with | [.box [.d (.sl 3 a1), .d (.int .i64 a2)], .d (.sl 3 a3)] => fun k => g ⟨a1, a2⟩ a3 (fun z0 z1 => k (.d (.int .i64 z0)) [.box [.d (.sl 3 z1.f_L), .d (.int .i64 z1.f_at)], .undef]) | _ => fun _ => none
noncomputable def code_9 : Code := (Tryz.f9.body).getD .skip
noncomputable def E_Stream_Pick (g : C_Stream_Pick) : Env A := mkE [(10, SS_Stream_Next g.Stream_Next)] [] [] [] [] [] [] [] [] [0]
theorem sm_Stream_Pick (g : C_Stream_Pick) : Same (SS_Stream_Pick (@Stream_Pick_ g)) (abody (E_Stream_Pick g) Tryz.f9 code_9 1 [0] [.asis] g.N) := by intro args; unfold SS_Stream_Pick; split; exact .inr fun R k => (by kernel_rfl); exact .inl fun R k => rfl
theorem ok_Stream_Pick [Fuel] : Ok 9 (SS_Stream_Pick (@Stream_Pick _)) := okF_of std (.cons ok_Stream_Next .nil) ⟨rfl, rfl, by kernel_rfl, rfl, rfl, rfl⟩ (sm_Stream_Pick I_Stream_Pick) (cuts0 (fun _ => rfl) (by kernel_rfl)) Tryz.func9 (by kernel_rfl) (by kernel_rfl)
abbrev T_Stream_Odd : Type 1 := G_Stream → Int → Int → {R : Type} → (Int → G_Stream → Option R) → Option R
structure C_Stream_Odd where
  N : Nat
  Stream_Range : T_Stream_Range
  Stream_Pick : T_Stream_Pick
  Stream_Flip : T_Stream_Flip
def Stream_Odd_ (g : C_Stream_Odd) (a1 : G_Stream) (a2 a3 : Int) {R : Type} (k0 : Int → G_Stream → Option R) : Option R :=
  (g.Stream_Flip a1 12 (fun r4 r5 => (bif r4 then (g.Stream_Pick r5 [(w64 (a2 - 1)), (w64 (a3 + 1)), a2, a3, (-1099511627776), 1099511627776] (fun r6 r7 => k0 r6 r7)) else (g.Stream_Range r5 a2 a3 (fun r8 r9 => k0 r8 r9)))))
noncomputable def I_Stream_Odd [Fuel] : C_Stream_Odd := ⟨NN, @Stream_Range _, @Stream_Pick _, @Stream_Flip _⟩
noncomputable def Stream_Odd [Fuel] : T_Stream_Odd := @Stream_Odd_ I_Stream_Odd
def SS_Stream_Odd (g : T_Stream_Odd) : Spec A := fun args => match args with | [.box [.d (.sl 3 a1), .d (.int .i64 a2)], .d (.int .i64 a3), .d (.int .i64 a4)] => fun k => g ⟨a1, a2⟩ a3 a4 (fun z0 z1 => k (.d (.int .i64 z0)) [.box [.d (.sl 3 z1.f_L), .d (.int .i64 z1.f_at)], .undef, .undef]) | _ => fun _ => none
noncomputable def code_44 : Code := (Tryz.f44.body).getD .skip
noncomputable def E_Stream_Odd (g : C_Stream_Odd) : Env A := mkE [(8, SS_Stream_Range g.Stream_Range), (9, SS_Stream_Pick g.Stream_Pick), (42, SS_Stream_Flip g.Stream_Flip)] [(16, [1])] [] [] [] [] [] [] [] [0]
theorem sm_Stream_Odd (g : C_Stream_Odd) : Same (SS_Stream_Odd (@Stream_Odd_ g)) (abody (E_Stream_Odd g) Tryz.f44 code_44 2 [0] [.asis] g.N) := by intro args; unfold SS_Stream_Odd; split; exact .inr fun R k => (by kernel_rfl); exact .inl fun R k => rfl
theorem ok_Stream_Odd [Fuel] : Ok 44 (SS_Stream_Odd (@Stream_Odd _)) := okF_of std (.cons ok_Stream_Range (.cons ok_Stream_Pick (.cons ok_Stream_Flip .nil))) ⟨rfl, rfl, by kernel_rfl, rfl, rfl, rfl⟩ (sm_Stream_Odd I_Stream_Odd) (cuts0 (fun _ => rfl) (by kernel_rfl)) Tryz.func44 (by kernel_rfl) (by kernel_rfl)
abbrev T_Stream_Members : Type 1 := G_Stream → List G_Club → {R : Type} → (List G_Member → G_Stream → Option R) → Option R
structure C_Stream_Members where
  N : Nat
  Stream_Range : T_Stream_Range
  Stream_Next : T_Stream_Next
  Stream_Flip : T_Stream_Flip
  Stream_Some : T_Stream_Some
  Stream_Odd : T_Stream_Odd
def Stream_Members_L7 (g : C_Stream_Members) : Nat → List G_Club → List UInt8 → Int → Int → Int → Int → Int → G_Stream → List (List UInt8) → List G_Member → {R : Type} → (List G_Club → Int → Int → G_Stream → List (List UInt8) → List G_Member → Option R) → Option R
  | 0, _, _, _, _, _, _, _, _, _, _, _, _ => none
  | n + 1, v133, v134, v135, v136, v137, v138, v139, v140, v141, v142, _, e0 => (bif (decide (v139 < v138)) then (g.Stream_Some v140 [[107, 112, 50, 48, 108, 102], [107, 112, 50, 48, 97, 97], [107, 112, 50, 49, 120, 120], [106, 111, 54, 50, 113, 109], [97, 97, 48, 48, 97, 97]] (fun r192 r193 => (bif (decide ((v133.length : Int) > 0)) then (g.Stream_Flip r193 5 (fun r194 r195 => (bif (!r194) then (g.Stream_Next r195 (v133.length : Int) (fun r196 r197 => (get_ v133 r196 fun x198 => (g.Stream_Flip r197 60 (fun r199 r200 => (bif r199 then (g.Stream_Some r200 [v134, [107, 49, 97, 98, 47, 52], []] (fun r201 r202 => (g.Stream_Some r202 [x198.f_Key, [110, 111, 98, 111, 100, 121]] (fun r203 r204 => (g.Stream_Odd r204 0 9 (fun r205 r206 => (g.Stream_Some r206 [[107, 112, 50, 48], [107, 112, 50, 48, 108, 122], [107, 112, 50, 48, 108, 102]] (fun r207 r208 => (bif (decide ((v142.length + [(⟨r201, r203, r205, r207⟩ : G_Member)].length) * 56 ≤ roomBytes')) then (g.Stream_Range r208 1 3 (fun r209 r210 => Stream_Members_L7 g n v133 v134 (w64 (v135 + r209)) v136 v137 v138 (w64 (v139 + 1)) r210 v141 (v142 ++ [(⟨r201, r203, r205, r207⟩ : G_Member)]) e0)) else none))))))))) else (bif (decide ((v142.length + [(⟨v134, x198.f_Key, v135, r192⟩ : G_Member)].length) * 56 ≤ roomBytes')) then (g.Stream_Range r200 1 3 (fun r211 r212 => Stream_Members_L7 g n v133 v134 (w64 (v135 + r211)) v136 v137 v138 (w64 (v139 + 1)) r212 v141 (v142 ++ [(⟨v134, x198.f_Key, v135, r192⟩ : G_Member)]) e0)) else none))))))) else (g.Stream_Flip r195 60 (fun r213 r214 => (bif r213 then (g.Stream_Some r214 [v134, [107, 49, 97, 98, 47, 52], []] (fun r215 r216 => (g.Stream_Some r216 [[], [110, 111, 98, 111, 100, 121]] (fun r217 r218 => (g.Stream_Odd r218 0 9 (fun r219 r220 => (g.Stream_Some r220 [[107, 112, 50, 48], [107, 112, 50, 48, 108, 122], [107, 112, 50, 48, 108, 102]] (fun r221 r222 => (bif (decide ((v142.length + [(⟨r215, r217, r219, r221⟩ : G_Member)].length) * 56 ≤ roomBytes')) then (g.Stream_Range r222 1 3 (fun r223 r224 => Stream_Members_L7 g n v133 v134 (w64 (v135 + r223)) v136 v137 v138 (w64 (v139 + 1)) r224 v141 (v142 ++ [(⟨r215, r217, r219, r221⟩ : G_Member)]) e0)) else none))))))))) else (bif (decide ((v142.length + [(⟨v134, [], v135, r192⟩ : G_Member)].length) * 56 ≤ roomBytes')) then (g.Stream_Range r214 1 3 (fun r225 r226 => Stream_Members_L7 g n v133 v134 (w64 (v135 + r225)) v136 v137 v138 (w64 (v139 + 1)) r226 v141 (v142 ++ [(⟨v134, [], v135, r192⟩ : G_Member)]) e0)) else none))))))) else (g.Stream_Flip r193 60 (fun r227 r228 => (bif r227 then (g.Stream_Some r228 [v134, [107, 49, 97, 98, 47, 52], []] (fun r229 r230 => (g.Stream_Some r230 [[], [110, 111, 98, 111, 100, 121]] (fun r231 r232 => (g.Stream_Odd r232 0 9 (fun r233 r234 => (g.Stream_Some r234 [[107, 112, 50, 48], [107, 112, 50, 48, 108, 122], [107, 112, 50, 48, 108, 102]] (fun r235 r236 => (bif (decide ((v142.length + [(⟨r229, r231, r233, r235⟩ : G_Member)].length) * 56 ≤ roomBytes')) then (g.Stream_Range r236 1 3 (fun r237 r238 => Stream_Members_L7 g n v133 v134 (w64 (v135 + r237)) v136 v137 v138 (w64 (v139 + 1)) r238 v141 (v142 ++ [(⟨r229, r231, r233, r235⟩ : G_Member)]) e0)) else none))))))))) else (bif (decide ((v142.length + [(⟨v134, [], v135, r192⟩ : G_Member)].length) * 56 ≤ roomBytes')) then (g.Stream_Range r228 1 3 (fun r239 r240 => Stream_Members_L7 g n v133 v134 (w64 (v135 + r239)) v136 v137 v138 (w64 (v139 + 1)) r240 v141 (v142 ++ [(⟨v134, [], v135, r192⟩ : G_Member)]) e0)) else none))))))) else e0 v133 v136 v137 v140 v141 v142)
def Stream_Members_L3 (g : C_Stream_Members) : Nat → List G_Club → Int → Int → G_Stream → List (List UInt8) → List G_Member → {R : Type} → (G_Stream → List G_Member → Option R) → Option R
  | 0, _, _, _, _, _, _, _, _ => none
  | n + 1, v3, v4, v5, v6, v7, v8, _, e0 => (bif (decide (v5 < v4)) then (inr v7 v5 (at_ v7 v5 fun x128 => (g.Stream_Range v6 0 5 (fun r129 r130 => (g.Stream_Range r130 0 2 (fun r131 r132 => (Stream_Members_L7 g g.N v3 x128 r129 v4 v5 r131 0 r132 v7 v8 (fun e241 e242 e243 e244 e245 e246 => Stream_Members_L3 g n e241 e242 (w64 (e243 + 1)) e244 e245 e246 e0)))))))) else e0 v6 v8)
def Stream_Members_ (g : C_Stream_Members) (a1 : G_Stream) (a2 : List G_Club) {R : Type} (k0 : List G_Member → G_Stream → Option R) : Option R :=
  (Stream_Members_L3 g g.N a2 ([[107, 49, 97, 98], [111, 104, 50, 97, 98, 99], [111, 104, 50, 97, 98, 100], [119, 49, 97, 119]].length : Int) 0 a1 [[107, 49, 97, 98], [111, 104, 50, 97, 98, 99], [111, 104, 50, 97, 98, 100], [119, 49, 97, 119]] [] (fun e247 e248 => k0 e248 e247))
noncomputable def I_Stream_Members [Fuel] : C_Stream_Members := ⟨NN, @Stream_Range _, @Stream_Next _, @Stream_Flip _, @Stream_Some _, @Stream_Odd _⟩
noncomputable def Stream_Members [Fuel] : T_Stream_Members := @Stream_Members_ I_Stream_Members
def SS_Stream_Members (g : T_Stream_Members) : Spec A := fun args => match args with | [.box [.d (.sl 3 a1), .d (.int .i64 a2)], .d (.sl 106 a3)] => fun k => g ⟨a1, a2⟩ a3 (fun z0 z1 => k (.arr 109 z0) [.box [.d (.sl 3 z1.f_L), .d (.int .i64 z1.f_at)], .undef]) | _ => fun _ => none
def sh_Stream_Members_L7 : SSt := mkSh 76 11 [(0, .ptr 0 0), (1, .sl 106), (5, .own 109 3), (7, .str), (8, .int .i64), (10, .own 9 1), (11, .int .i64), (12, .int .i64), (19, .int .i64), (20, .int .i64)] [(0, .box [.sl 3, .int .i64]), (1, .row 9), (3, .row 109)]
def LP_Stream_Members_L7 (g : C_Stream_Members) (n : Nat) : LPT A := fun ps => match ps with | [.d (.sl 106 p1), .d (.str p2), .d (.int .i64 p3), .d (.int .i64 p4), .d (.int .i64 p5), .d (.int .i64 p6), .d (.int .i64 p7), .d (.sl 3 p8), .d (.int .i64 p9), .d (.sl 9 p10), .d (.sl 109 p11)] => fun K => Stream_Members_L7 g n p1 p2 p3 p4 p5 p6 p7 ⟨p8, p9⟩ p10 p11 (fun z0 z1 z2 z3 z4 z5 => K (.exit 2) (mkSt 76 11 [(0, .ptr 0 0), (1, .d (.sl 106 z0)), (5, .own 109 3), (10, .own 9 1), (11, .d (.int .i64 z1)), (12, .d (.int .i64 z2))] [(0, some (.box [.d (.sl 3 z3.f_L), .d (.int .i64 z3.f_at)])), (1, some (.row 9 z4)), (3, some (.row 109 z5))])) | _ => fun _ => none
def sh_Stream_Members_L3 : SSt := mkSh 76 11 [(0, .ptr 0 0), (1, .sl 106), (5, .own 109 2), (10, .own 9 1), (11, .int .i64), (12, .int .i64)] [(0, .box [.sl 3, .int .i64]), (1, .row 9), (2, .row 109)]
def LP_Stream_Members_L3 (g : C_Stream_Members) (n : Nat) : LPT A := fun ps => match ps with | [.d (.sl 106 p1), .d (.int .i64 p2), .d (.int .i64 p3), .d (.sl 3 p4), .d (.int .i64 p5), .d (.sl 9 p6), .d (.sl 109 p7)] => fun K => Stream_Members_L3 g n p1 p2 p3 ⟨p4, p5⟩ p6 p7 (fun z0 z1 => K (.exit 0) (mkSt 76 11 [(0, .ptr 0 0), (5, .own 109 2)] [(0, some (.box [.d (.sl 3 z0.f_L), .d (.int .i64 z0.f_at)])), (2, some (.row 109 z1))])) | _ => fun _ => none
noncomputable def code_23 : Code := (Tryz.f23.body).getD .skip
noncomputable def E_Stream_Members (g : C_Stream_Members) : Env A := mkE [(8, SS_Stream_Range g.Stream_Range), (10, SS_Stream_Next g.Stream_Next), (42, SS_Stream_Flip g.Stream_Flip), (43, SS_Stream_Some g.Stream_Some), (44, SS_Stream_Odd g.Stream_Odd)] [(9, [5]), (10, [1]), (25, [4]), (49, [6]), (54, [7]), (59, [8]), (67, [9]), (68, [10])] [(7, ⟨[0, 1, 5, 7, 8, 10, 11, 12, 19, 20], [(5, 109, 3)], [0, 1], []⟩), (3, ⟨[0, 1, 5, 10, 11, 12], [(5, 109, 2)], [0, 1], []⟩)] [(7, ⟨[0, 1, 5, 10, 11, 12], [], [0, 1, 3], []⟩), (3, ⟨[0, 5], [], [0, 2], []⟩)] [(7, pieceOf sh_Stream_Members_L7 (LP_Stream_Members_L7 g g.N)), (3, pieceOf sh_Stream_Members_L3 (LP_Stream_Members_L3 g g.N))] [] [] [] [] [0]
theorem ct_Stream_Members [Fuel] : NatTab (E_Stream_Members I_Stream_Members).C := ct_of (P := Tryz.prog) (T := T) (.cons ok_Stream_Range (.cons ok_Stream_Next (.cons ok_Stream_Flip (.cons ok_Stream_Some (.cons ok_Stream_Odd .nil))))) (by kernel_rfl)
noncomputable def cb_Stream_Members_L7 : Code := sub [1, 1, 0, 1, 0, 0, 1, 1, 0, 0, 1, 1, 1, 0, 0] code_23
theorem s_Stream_Members_L7 (g : C_Stream_Members) (n : Nat) : StepOk (E_Stream_Members g) g.N cb_Stream_Members_L7 sh_Stream_Members_L7 (LP_Stream_Members_L7 g) n := by intro ps; unfold LP_Stream_Members_L7; split; exact .inr fun R K => (by kernel_rfl); exact .inl fun R K => rfl
theorem lf_Stream_Members_L7 [Fuel] : LoopFine (E_Stream_Members I_Stream_Members) NN cb_Stream_Members_L7 := fine_loop sh_Stream_Members_L7 (LP_Stream_Members_L7 I_Stream_Members) (by kernel_rfl) ct_Stream_Members (cuts0 (fun _ => rfl) (by kernel_rfl)) (fun ps R K => by unfold LP_Stream_Members_L7; split <;> (try unfold Stream_Members_L7) <;> rfl) (s_Stream_Members_L7 I_Stream_Members)
noncomputable def cb_Stream_Members_L3 : Code := sub [1, 1, 0, 1, 0, 0] code_23
theorem s_Stream_Members_L3 (g : C_Stream_Members) (n : Nat) : StepOk (E_Stream_Members g) g.N cb_Stream_Members_L3 sh_Stream_Members_L3 (LP_Stream_Members_L3 g) n := by intro ps; unfold LP_Stream_Members_L3; split; exact .inr fun R K => (by kernel_rfl); exact .inl fun R K => rfl
theorem lf_Stream_Members_L3 [Fuel] : LoopFine (E_Stream_Members I_Stream_Members) NN cb_Stream_Members_L3 := fine_loop sh_Stream_Members_L3 (LP_Stream_Members_L3 I_Stream_Members) (by kernel_rfl) ct_Stream_Members (cutsL (fun _ => rfl) (.cons lf_Stream_Members_L7 .nil) (by kernel_rfl)) (fun ps R K => by unfold LP_Stream_Members_L3; split <;> (try unfold Stream_Members_L3) <;> rfl) (s_Stream_Members_L3 I_Stream_Members)
theorem sm_Stream_Members (g : C_Stream_Members) : Same (SS_Stream_Members (@Stream_Members_ g)) (abody (E_Stream_Members g) Tryz.f23 code_23 11 [0] [.arr 109] g.N) := by intro args; unfold SS_Stream_Members; split; exact .inr fun R k => (by kernel_rfl); exact .inl fun R k => rfl
theorem ok_Stream_Members [Fuel] : Ok 23 (SS_Stream_Members (@Stream_Members _)) := okF_of std (.cons ok_Stream_Range (.cons ok_Stream_Next (.cons ok_Stream_Flip (.cons ok_Stream_Some (.cons ok_Stream_Odd .nil))))) ⟨rfl, rfl, by kernel_rfl, rfl, rfl, rfl⟩ (sm_Stream_Members I_Stream_Members) (cutsL (fun _ => rfl) (.cons lf_Stream_Members_L7 (.cons lf_Stream_Members_L3 .nil)) (by kernel_rfl)) Tryz.func23 (by kernel_rfl) (by kernel_rfl)
abbrev T_Stream_ACall : Type 1 := G_Stream → {R : Type} → (List UInt8 → G_Stream → Option R) → Option R
structure C_Stream_ACall where
  N : Nat
  Stream_Flip : T_Stream_Flip
  Stream_Some : T_Stream_Some
def Stream_ACall_ (g : C_Stream_ACall) (a1 : G_Stream) {R : Type} (k0 : List UInt8 → G_Stream → Option R) : Option R :=
  (g.Stream_Flip a1 60 (fun r2 r3 => (bif r2 then (g.Stream_Some r3 [[], [107, 49], [75, 49, 65, 66], [107, 49, 97, 98, 47], [49, 97], [107, 49, 97, 98, 47, 109, 109, 47, 112]] (fun r4 r5 => k0 r4 r5)) else (g.Stream_Some r3 [[107, 49, 97, 98], [107, 49, 97, 97], [107, 49, 97, 98, 47, 52], [111, 104, 50, 97, 98, 99], [111, 104, 50, 97, 98, 100], [119, 49, 97, 119], [110, 49, 109, 109], [103, 51, 120, 121, 122, 47, 112]] (fun r6 r7 => k0 r6 r7)))))
noncomputable def I_Stream_ACall [Fuel] : C_Stream_ACall := ⟨NN, @Stream_Flip _, @Stream_Some _⟩
noncomputable def Stream_ACall [Fuel] : T_Stream_ACall := @Stream_ACall_ I_Stream_ACall
def SS_Stream_ACall (g : T_Stream_ACall) : Spec A := fun args => match args with | [.box [.d (.sl 3 a1), .d (.int .i64 a2)]] => fun k => g ⟨a1, a2⟩ (fun z0 z1 => k (.d (.str z0)) [.box [.d (.sl 3 z1.f_L), .d (.int .i64 z1.f_at)]]) | _ => fun _ => none
noncomputable def code_24 : Code := (Tryz.f24.body).getD .skip
noncomputable def E_Stream_ACall (g : C_Stream_ACall) : Env A := mkE [(42, SS_Stream_Flip g.Stream_Flip), (43, SS_Stream_Some g.Stream_Some)] [(6, [1]), (9, [2])] [] [] [] [] [] [] [] [0]
theorem sm_Stream_ACall (g : C_Stream_ACall) : Same (SS_Stream_ACall (@Stream_ACall_ g)) (abody (E_Stream_ACall g) Tryz.f24 code_24 3 [0] [.asis] g.N) := by intro args; unfold SS_Stream_ACall; split; exact .inr fun R k => (by kernel_rfl); exact .inl fun R k => rfl
theorem ok_Stream_ACall [Fuel] : Ok 24 (SS_Stream_ACall (@Stream_ACall _)) := okF_of std (.cons ok_Stream_Flip (.cons ok_Stream_Some .nil)) ⟨rfl, rfl, by kernel_rfl, rfl, rfl, rfl⟩ (sm_Stream_ACall I_Stream_ACall) (cuts0 (fun _ => rfl) (by kernel_rfl)) Tryz.func24 (by kernel_rfl) (by kernel_rfl)
abbrev T_strings_IndexByte : Type 1 := List UInt8 → Int → {R : Type} → (Int → Option R) → Option R
def strings_IndexByte [Fuel] : T_strings_IndexByte := @X_ixb
def SS_strings_IndexByte (g : T_strings_IndexByte) : Spec A := SSX_ixb g
theorem ok_strings_IndexByte [Fuel] : Ok 119 (SS_strings_IndexByte (@strings_IndexByte _)) := ⟨ssx_ixb_sound (ixb_sound (Any.strings_IndexByte Tryz.lays137)), ssx_ixb_nat, enters_of (fn := Tryz.f119) Tryz.func119 (by kernel_rfl) (by kernel_rfl)⟩
abbrev T_strings_Trim : Type 1 := List UInt8 → List UInt8 → {R : Type} → (List UInt8 → Option R) → Option R
def strings_Trim [Fuel] : T_strings_Trim := @X_trim
def SS_strings_Trim (g : T_strings_Trim) : Spec A := SSX_trim g
theorem ok_strings_Trim [Fuel] : Ok 120 (SS_strings_Trim (@strings_Trim _)) := ⟨ssx_trim_sound (trim_sound rfl (fun s cs w h1 h2 h3 => Any.strings_Trim_laid Tryz.lays160 (by kernel_rfl) s cs w h1 h2 h3)), ssx_trim_nat, enters_of (fn := Tryz.f120) Tryz.func120 (by kernel_rfl) (by kernel_rfl)⟩
abbrev T_kit_IsKey : Type 1 := List UInt8 → {R : Type} → (Bool → Option R) → Option R
structure C_kit_IsKey where
  N : Nat
  strings_IndexByte : T_strings_IndexByte
  strings_Trim : T_strings_Trim
def kit_IsKey_ (g : C_kit_IsKey) (a1 : List UInt8) {R : Type} (k0 : Bool → Option R) : Option R :=
  (bif (!(a1 == [])) then (bif (decide ((a1.length : Int) ≤ 40)) then (at_ a1 0 fun x2 => (g.strings_IndexByte [97, 98, 99, 100, 101, 102, 103, 104, 105, 106, 107, 108, 109, 110, 111, 112, 113, 114, 115, 116, 117, 118, 119, 120, 121, 122] (x2.toNat : Int) (fun r3 => (bif (decide (r3 ≥ 0)) then (g.strings_Trim a1 [97, 98, 99, 100, 101, 102, 103, 104, 105, 106, 107, 108, 109, 110, 111, 112, 113, 114, 115, 116, 117, 118, 119, 120, 121, 122, 48, 49, 50, 51, 52, 53, 54, 55, 56, 57, 45, 95] (fun r4 => k0 (r4 == []))) else k0 false)))) else k0 false) else k0 false)
noncomputable def I_kit_IsKey [Fuel] : C_kit_IsKey := ⟨NN, @strings_IndexByte _, @strings_Trim _⟩
noncomputable def kit_IsKey [Fuel] : T_kit_IsKey := @kit_IsKey_ I_kit_IsKey
def SS_kit_IsKey (g : T_kit_IsKey) : Spec A := fun args => match args with | [.d (.str a1)] => fun k => g a1 (fun z0 => k (.d (.bool z0)) [.undef]) | _ => fun _ => none
noncomputable def code_79 : Code := (Tryz.f79.body).getD .skip
noncomputable def E_kit_IsKey (g : C_kit_IsKey) : Env A := mkE [(119, SS_strings_IndexByte g.strings_IndexByte), (120, SS_strings_Trim g.strings_Trim)] [] [] [] [] [] [] [] [] []
theorem sm_kit_IsKey (g : C_kit_IsKey) : Same (SS_kit_IsKey (@kit_IsKey_ g)) (abody (E_kit_IsKey g) Tryz.f79 code_79 0 [] [.asis] g.N) := by intro args; unfold SS_kit_IsKey; split; exact .inr fun R k => (by kernel_rfl); exact .inl fun R k => rfl
theorem ok_kit_IsKey [Fuel] : Ok 79 (SS_kit_IsKey (@kit_IsKey _)) := okF_of std (.cons ok_strings_IndexByte (.cons ok_strings_Trim .nil)) ⟨rfl, rfl, by kernel_rfl, rfl, rfl, rfl⟩ (sm_kit_IsKey I_kit_IsKey) (cuts0 (fun _ => rfl) (by kernel_rfl)) Tryz.func79 (by kernel_rfl) (by kernel_rfl)
abbrev T_club_isSquare : Type 1 := List UInt8 → {R : Type} → (Bool → Option R) → Option R
def club_isSquare_L4 (g : Nat) : Nat → List UInt8 → Int → Int → {R : Type} → (Bool → Option R) → Option R → Option R
  | 0, _, _, _, _, _, _ => none
  | n + 1, v2, v3, v4, _, e0, e1 => (bif (decide (v4 < v3)) then (bif ((w64 (Int.tdiv v4 2)) == 1) then (get_ v2 v4 fun x11 => (bif (decide ((x11.toNat : Int) < 48)) then e0 false else (get_ v2 v4 fun x12 => (bif (decide ((x12.toNat : Int) > 57)) then e0 false else club_isSquare_L4 g n v2 v3 (w64 (v4 + 1)) e0 e1)))) else (bif ((w64 (Int.tdiv v4 2)) == 2) then (get_ v2 v4 fun x13 => (bif (decide ((x13.toNat : Int) < 97)) then e0 false else (get_ v2 v4 fun x14 => (bif (decide ((x14.toNat : Int) > 120)) then e0 false else club_isSquare_L4 g n v2 v3 (w64 (v4 + 1)) e0 e1)))) else (get_ v2 v4 fun x15 => (bif (decide ((x15.toNat : Int) < 97)) then e0 false else (get_ v2 v4 fun x16 => (bif (decide ((x16.toNat : Int) > 114)) then e0 false else club_isSquare_L4 g n v2 v3 (w64 (v4 + 1)) e0 e1)))))) else e1)
def club_isSquare_ (g : Nat) (a1 : List UInt8) {R : Type} (k0 : Bool → Option R) : Option R :=
  (bif ((a1.length : Int) != 2) then (bif ((a1.length : Int) != 4) then (bif ((a1.length : Int) != 6) then k0 false else (club_isSquare_L4 g g a1 (a1.length : Int) 0 (fun e17 => k0 e17) (k0 true))) else (club_isSquare_L4 g g a1 (a1.length : Int) 0 (fun e18 => k0 e18) (k0 true))) else (club_isSquare_L4 g g a1 (a1.length : Int) 0 (fun e19 => k0 e19) (k0 true)))
noncomputable def club_isSquare [Fuel] : T_club_isSquare := @club_isSquare_ NN
def SS_club_isSquare (g : T_club_isSquare) : Spec A := fun args => match args with | [.d (.str a1)] => fun k => g a1 (fun z0 => k (.d (.bool z0)) [.undef]) | _ => fun _ => none
def sh_club_isSquare_L4 : SSt := mkSh 43 0 [(0, .str), (20, .int .i64), (21, .int .i64)] []
def LP_club_isSquare_L4 (g : Nat) (n : Nat) : LPT A := fun ps => match ps with | [.d (.str p1), .d (.int .i64 p2), .d (.int .i64 p3)] => fun K => club_isSquare_L4 g n p1 p2 p3 (fun z0 => K .ret (mkSt 43 0 [(2, .d (.bool z0))] [])) (K (.exit 0) (mkSt 43 0 [] [])) | _ => fun _ => none
noncomputable def code_121 : Code := (Tryz.f121.body).getD .skip
noncomputable def E_club_isSquare (g : Nat) : Env A := mkE [] [] [(4, ⟨[0, 20, 21], [], [], []⟩)] [(4, ⟨[2], [], [], []⟩)] [(4, pieceOf sh_club_isSquare_L4 (LP_club_isSquare_L4 g g))] [] [] [] [] []
theorem ct_club_isSquare [Fuel] : NatTab (E_club_isSquare NN).C := ct_of (P := Tryz.prog) (T := T) .nil (by kernel_rfl)
noncomputable def cb_club_isSquare_L4 : Code := sub [1, 1, 0, 1, 0, 0] code_121
theorem s_club_isSquare_L4 (g : Nat) (n : Nat) : StepOk (E_club_isSquare g) g cb_club_isSquare_L4 sh_club_isSquare_L4 (LP_club_isSquare_L4 g) n := by intro ps; unfold LP_club_isSquare_L4; split; exact .inr fun R K => (by kernel_rfl); exact .inl fun R K => rfl
theorem lf_club_isSquare_L4 [Fuel] : LoopFine (E_club_isSquare NN) NN cb_club_isSquare_L4 := fine_loop sh_club_isSquare_L4 (LP_club_isSquare_L4 NN) (by kernel_rfl) ct_club_isSquare (cuts0 (fun _ => rfl) (by kernel_rfl)) (fun ps R K => by unfold LP_club_isSquare_L4; split <;> (try unfold club_isSquare_L4) <;> rfl) (s_club_isSquare_L4 NN)
theorem sm_club_isSquare (g : Nat) : Same (SS_club_isSquare (@club_isSquare_ g)) (abody (E_club_isSquare g) Tryz.f121 code_121 0 [] [.asis] g) := by intro args; unfold SS_club_isSquare; split; exact .inr fun R k => (by kernel_rfl); exact .inl fun R k => rfl
theorem ok_club_isSquare [Fuel] : Ok 121 (SS_club_isSquare (@club_isSquare _)) := okF_of std .nil ⟨rfl, rfl, by kernel_rfl, rfl, rfl, rfl⟩ (sm_club_isSquare NN) (cutsL (fun _ => rfl) (.cons lf_club_isSquare_L4 .nil) (by kernel_rfl)) Tryz.func121 (by kernel_rfl) (by kernel_rfl)
end Go.Am
