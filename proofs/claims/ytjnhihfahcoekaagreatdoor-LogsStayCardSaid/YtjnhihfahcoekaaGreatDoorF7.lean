/- The functions of the program as Lean functions, each shown to be what the code computes, part 7. No condition: lemmas for the claim. -/
import Derived.Test.YtjnhihfahcoekaaGreatDoorF0
import Derived.Test.YtjnhihfahcoekaaGreatDoorFSh
import Derived.Test.YtjnhihfahcoekaaGreatDoorF4
import Derived.Test.YtjnhihfahcoekaaGreatDoorF5
set_option linter.unusedVariables false
set_option maxRecDepth 100000
namespace Go.Am
open Go Go.Proofs
abbrev T_z7z : Type 1 := List G_Change → Int → {R : Type} → (Int → Option R) → Option R
structure C_z7z where
 N : Nat
 z45z : T_z45z
 z56z : T_z56z
def z7z_J19 (g : C_z7z)  {R : Type} (e0 : Int → Option R) : Option R :=
 e0 0
def z7z_J18 (g : C_z7z) (v522 : Bool) {R : Type} (e0 : Int → Option R) (e1 : Option R) : Option R :=
 (bif v522 then e0 7 else e1)
def z7z_J17 (g : C_z7z) (v501 : List G_Change) (v502 : Int) (v503 : G_Change) {R : Type} (e0 : Int → Option R) : Option R :=
 (bif (decide (v502 > 0)) then (get_ v501 (w64 (v502 - 1)) fun x523 => (z7z_J18 g (decide (v503.f_No ≤ x523.f_No)) (fun e524 => e0 e524) (z7z_J19 g (fun e525 => e0 e525)))) else (z7z_J18 g false (fun e526 => e0 e526) (z7z_J19 g (fun e527 => e0 e527))))
def z7z_J16 (g : C_z7z) (v528 : List G_Change) (v529 : Int) (v530 : Bool) (v531 : G_Change) {R : Type} (e0 : List G_Change → Int → Int → G_Change → Option R) (e1 : List G_Change → Int → G_Change → Option R) : Option R :=
 (bif v530 then e0 v528 v529 3 v531 else e1 v528 v529 v531)
def z7z_J14 (g : C_z7z) (v305 : List G_Change) (v306 : Int) (v307 : G_Change) {R : Type} (e0 : Int → Option R) : Option R :=
 (bif (v307.f_Kind == 2) then (bif (!(eq_G_Contact v307.f_Is (⟨0, 0, [], [], 0, 0, [], []⟩ : G_Contact))) then (z7z_J16 g v305 v306 true v307 (fun e532 e533 e534 e535 => e0 e534) (fun e536 e537 e538 => (z7z_J17 g e536 e537 e538 (fun e539 => e0 e539)))) else (bif (v307.f_Kind == 1) then (bif (!(eq_G_Contact v307.f_Was (⟨0, 0, [], [], 0, 0, [], []⟩ : G_Contact))) then (z7z_J16 g v305 v306 true v307 (fun e540 e541 e542 e543 => e0 e542) (fun e544 e545 e546 => (z7z_J17 g e544 e545 e546 (fun e547 => e0 e547)))) else (z7z_J16 g v305 v306 (eq_G_Contact v307.f_Was v307.f_Is) v307 (fun e548 e549 e550 e551 => e0 e550) (fun e552 e553 e554 => (z7z_J17 g e552 e553 e554 (fun e555 => e0 e555))))) else (z7z_J16 g v305 v306 (eq_G_Contact v307.f_Was v307.f_Is) v307 (fun e556 e557 e558 e559 => e0 e558) (fun e560 e561 e562 => (z7z_J17 g e560 e561 e562 (fun e563 => e0 e563)))))) else (bif (v307.f_Kind == 1) then (bif (!(eq_G_Contact v307.f_Was (⟨0, 0, [], [], 0, 0, [], []⟩ : G_Contact))) then (z7z_J16 g v305 v306 true v307 (fun e564 e565 e566 e567 => e0 e566) (fun e568 e569 e570 => (z7z_J17 g e568 e569 e570 (fun e571 => e0 e571)))) else (z7z_J16 g v305 v306 (eq_G_Contact v307.f_Was v307.f_Is) v307 (fun e572 e573 e574 e575 => e0 e574) (fun e576 e577 e578 => (z7z_J17 g e576 e577 e578 (fun e579 => e0 e579))))) else (z7z_J16 g v305 v306 (eq_G_Contact v307.f_Was v307.f_Is) v307 (fun e580 e581 e582 e583 => e0 e582) (fun e584 e585 e586 => (z7z_J17 g e584 e585 e586 (fun e587 => e0 e587))))))
def z7z_J10 (g : C_z7z) (v13 : List G_Change) (v14 : Int) (v15 : G_Change) {R : Type} (e0 : Int → Option R) : Option R :=
 (bif (v15.f_Kind != 2) then (g.z56z v15.f_Is (fun r588 => (bif (r588 != 0) then e0 r588 else (z7z_J14 g v13 v14 v15 (fun e589 => e0 e589))))) else (z7z_J14 g v13 v14 v15 (fun e590 => e0 e590)))
def z7z_ (g : C_z7z) (a1 : List G_Change) (a2 : Int) {R : Type} (k0 : Int → Option R) : Option R :=
 (get_ a1 a2 fun x4 => (g.z45z x4.f_No 1 1000 (fun r7 => (bif r7 then k0 1 else (g.z45z x4.f_Kind 1 3 (fun r10 => (bif r10 then k0 4 else (bif (x4.f_Kind != 1) then (g.z56z x4.f_Was (fun r591 => (bif (r591 != 0) then k0 r591 else (z7z_J10 g a1 a2 x4 (fun e592 => k0 e592))))) else (z7z_J10 g a1 a2 x4 (fun e593 => k0 e593))))))))))
noncomputable def I_z7z [Fuel] : C_z7z := ⟨NN, @z45z _, @z56z _⟩
noncomputable def z7z [Fuel] : T_z7z := @z7z_ I_z7z
def SS_z7z (g : T_z7z) : Spec A := fun args => match args with | [.d (.sl 42 a1), .d (.int .i64 a2)] => fun k => g a1 a2 (fun z0 => k (.d (.int .i64 z0)) [.undef, .undef]) | _ => fun _ => none
def sh_z7z_J19 : SSt := mkSh 78 2 [] []
def LP_z7z_J19 (g : C_z7z) : LPT A := fun ps => match ps with | [] => fun K => z7z_J19 g (fun z0 => K .ret (mkSt 78 2 [(4, .d (.int .i64 z0))] [])) | _ => fun _ => none
def sh_z7z_J18 : SSt := mkSh 78 2 [(77, .bool)] []
def LP_z7z_J18 (g : C_z7z) : LPT A := fun ps => match ps with | [.d (.bool p1)] => fun K => z7z_J18 g p1 (fun z0 => K .ret (mkSt 78 2 [(4, .d (.int .i64 z0))] [])) (K .normal (mkSt 78 2 [] [])) | _ => fun _ => none
def sh_z7z_J17 : SSt := mkSh 78 2 [(0, .sl 42), (1, .int .i64), (5, .ptr 0 0)] [(0, .box [.int .i64, .int .i64, .int .i64, .int .i64, .str, .str, .int .i64, .int .i64, .str, .str, .int .i64, .int .i64, .str, .str, .int .i64, .int .i64, .str, .str])]
def LP_z7z_J17 (g : C_z7z) : LPT A := fun ps => match ps with | [.d (.sl 42 p1), .d (.int .i64 p2), .d (.int .i64 p3), .d (.int .i64 p4), .d (.int .i64 p5), .d (.int .i64 p6), .d (.str p7), .d (.str p8), .d (.int .i64 p9), .d (.int .i64 p10), .d (.str p11), .d (.str p12), .d (.int .i64 p13), .d (.int .i64 p14), .d (.str p15), .d (.str p16), .d (.int .i64 p17), .d (.int .i64 p18), .d (.str p19), .d (.str p20)] => fun K => z7z_J17 g p1 p2 ⟨p3, p4, ⟨p5, p6, p7, p8, p9, p10, p11, p12⟩, ⟨p13, p14, p15, p16, p17, p18, p19, p20⟩⟩ (fun z0 => K .ret (mkSt 78 2 [(4, .d (.int .i64 z0))] [])) | _ => fun _ => none
def sh_z7z_J16 : SSt := mkSh 78 2 [(0, .sl 42), (1, .int .i64), (5, .ptr 0 0), (64, .bool)] [(0, .box [.int .i64, .int .i64, .int .i64, .int .i64, .str, .str, .int .i64, .int .i64, .str, .str, .int .i64, .int .i64, .str, .str, .int .i64, .int .i64, .str, .str])]
def LP_z7z_J16 (g : C_z7z) : LPT A := fun ps => match ps with | [.d (.sl 42 p1), .d (.int .i64 p2), .d (.bool p3), .d (.int .i64 p4), .d (.int .i64 p5), .d (.int .i64 p6), .d (.int .i64 p7), .d (.str p8), .d (.str p9), .d (.int .i64 p10), .d (.int .i64 p11), .d (.str p12), .d (.str p13), .d (.int .i64 p14), .d (.int .i64 p15), .d (.str p16), .d (.str p17), .d (.int .i64 p18), .d (.int .i64 p19), .d (.str p20), .d (.str p21)] => fun K => z7z_J16 g p1 p2 p3 ⟨p4, p5, ⟨p6, p7, p8, p9, p10, p11, p12, p13⟩, ⟨p14, p15, p16, p17, p18, p19, p20, p21⟩⟩ (fun z0 z1 z2 z3 => K .ret (mkSt 78 2 [(0, .d (.sl 42 z0)), (1, .d (.int .i64 z1)), (4, .d (.int .i64 z2)), (5, .ptr 0 0)] [(0, some (.box [.d (.int .i64 z3.f_No), .d (.int .i64 z3.f_Kind), .d (.int .i64 z3.f_Was.f_At), .d (.int .i64 z3.f_Was.f_Mode), .d (.str z3.f_Was.f_Band), .d (.str z3.f_Was.f_Call), .d (.int .i64 z3.f_Was.f_Sent), .d (.int .i64 z3.f_Was.f_Heard), .d (.str z3.f_Was.f_Gave), .d (.str z3.f_Was.f_Got), .d (.int .i64 z3.f_Is.f_At), .d (.int .i64 z3.f_Is.f_Mode), .d (.str z3.f_Is.f_Band), .d (.str z3.f_Is.f_Call), .d (.int .i64 z3.f_Is.f_Sent), .d (.int .i64 z3.f_Is.f_Heard), .d (.str z3.f_Is.f_Gave), .d (.str z3.f_Is.f_Got)]))])) (fun z0 z1 z2 => K .normal (mkSt 78 2 [(0, .d (.sl 42 z0)), (1, .d (.int .i64 z1)), (5, .ptr 0 0)] [(0, some (.box [.d (.int .i64 z2.f_No), .d (.int .i64 z2.f_Kind), .d (.int .i64 z2.f_Was.f_At), .d (.int .i64 z2.f_Was.f_Mode), .d (.str z2.f_Was.f_Band), .d (.str z2.f_Was.f_Call), .d (.int .i64 z2.f_Was.f_Sent), .d (.int .i64 z2.f_Was.f_Heard), .d (.str z2.f_Was.f_Gave), .d (.str z2.f_Was.f_Got), .d (.int .i64 z2.f_Is.f_At), .d (.int .i64 z2.f_Is.f_Mode), .d (.str z2.f_Is.f_Band), .d (.str z2.f_Is.f_Call), .d (.int .i64 z2.f_Is.f_Sent), .d (.int .i64 z2.f_Is.f_Heard), .d (.str z2.f_Is.f_Gave), .d (.str z2.f_Is.f_Got)]))])) | _ => fun _ => none
def sh_z7z_J14 : SSt := mkSh 78 2 [(0, .sl 42), (1, .int .i64), (5, .ptr 0 0)] [(0, .box [.int .i64, .int .i64, .int .i64, .int .i64, .str, .str, .int .i64, .int .i64, .str, .str, .int .i64, .int .i64, .str, .str, .int .i64, .int .i64, .str, .str])]
def LP_z7z_J14 (g : C_z7z) : LPT A := fun ps => match ps with | [.d (.sl 42 p1), .d (.int .i64 p2), .d (.int .i64 p3), .d (.int .i64 p4), .d (.int .i64 p5), .d (.int .i64 p6), .d (.str p7), .d (.str p8), .d (.int .i64 p9), .d (.int .i64 p10), .d (.str p11), .d (.str p12), .d (.int .i64 p13), .d (.int .i64 p14), .d (.str p15), .d (.str p16), .d (.int .i64 p17), .d (.int .i64 p18), .d (.str p19), .d (.str p20)] => fun K => z7z_J14 g p1 p2 ⟨p3, p4, ⟨p5, p6, p7, p8, p9, p10, p11, p12⟩, ⟨p13, p14, p15, p16, p17, p18, p19, p20⟩⟩ (fun z0 => K .ret (mkSt 78 2 [(4, .d (.int .i64 z0))] [])) | _ => fun _ => none
def sh_z7z_J10 : SSt := mkSh 78 2 [(0, .sl 42), (1, .int .i64), (5, .ptr 0 0)] [(0, .box [.int .i64, .int .i64, .int .i64, .int .i64, .str, .str, .int .i64, .int .i64, .str, .str, .int .i64, .int .i64, .str, .str, .int .i64, .int .i64, .str, .str])]
def LP_z7z_J10 (g : C_z7z) : LPT A := fun ps => match ps with | [.d (.sl 42 p1), .d (.int .i64 p2), .d (.int .i64 p3), .d (.int .i64 p4), .d (.int .i64 p5), .d (.int .i64 p6), .d (.str p7), .d (.str p8), .d (.int .i64 p9), .d (.int .i64 p10), .d (.str p11), .d (.str p12), .d (.int .i64 p13), .d (.int .i64 p14), .d (.str p15), .d (.str p16), .d (.int .i64 p17), .d (.int .i64 p18), .d (.str p19), .d (.str p20)] => fun K => z7z_J10 g p1 p2 ⟨p3, p4, ⟨p5, p6, p7, p8, p9, p10, p11, p12⟩, ⟨p13, p14, p15, p16, p17, p18, p19, p20⟩⟩ (fun z0 => K .ret (mkSt 78 2 [(4, .d (.int .i64 z0))] [])) | _ => fun _ => none
noncomputable def code_53 : Code := (Tryz.f53.body).getD .skip
def CS_z7z (g : C_z7z) : List (Nat × Piece A) := [(19, pieceOf sh_z7z_J19 (LP_z7z_J19 g)), (18, pieceOf sh_z7z_J18 (LP_z7z_J18 g)), (17, pieceOf sh_z7z_J17 (LP_z7z_J17 g)), (16, pieceOf sh_z7z_J16 (LP_z7z_J16 g)), (14, pieceOf sh_z7z_J14 (LP_z7z_J14 g)), (10, pieceOf sh_z7z_J10 (LP_z7z_J10 g))]
noncomputable def E_z7z (g : C_z7z) : Env A := mkE [(28, SS_z45z g.z45z), (52, SS_z56z g.z56z)] [(5, [0]), (8, [1])] [] [] [] [(19, ⟨[], [], [], [], [], []⟩), (18, ⟨[77], [], [], [], [], []⟩), (17, ⟨[0, 1, 5], [], [0], [], [], []⟩), (16, ⟨[0, 1, 5, 64], [], [0], [], [], []⟩), (14, ⟨[0, 1, 5], [], [0], [], [], []⟩), (10, ⟨[0, 1, 5], [], [0], [], [], []⟩)] [(19, ⟨[4], [], [], [], [], []⟩), (18, ⟨[4], [], [], [], [], []⟩), (17, ⟨[4], [], [], [], [], []⟩), (16, ⟨[0, 1, 4, 5], [], [0], [], [], []⟩), (14, ⟨[4], [], [], [], [], []⟩), (10, ⟨[4], [], [], [], [], []⟩)] (CS_z7z g) [] []
theorem ct_z7z [Fuel] : NatTab (E_z7z I_z7z).C := ct_of (P := Tryz.prog) (T := T) (.cons ok_z45z (.cons ok_z56z .nil)) (by kernel_rfl)
noncomputable def cb_z7z_J19 : Code := sub [1, 1, 1, 1, 1, 1, 1, 1, 1] code_53
theorem s_z7z_J19 (g : C_z7z) : JumpOk (E_z7z g) g.N cb_z7z_J19 sh_z7z_J19 (LP_z7z_J19 g) := by intro ps; unfold LP_z7z_J19; split; exact .inr fun R K => (by kernel_rfl); exact .inl fun R K => rfl
theorem sf_z7z_J19 [Fuel] : SeqFine (E_z7z I_z7z) NN cb_z7z_J19 := fine_jump sh_z7z_J19 (LP_z7z_J19 I_z7z) (by kernel_rfl) ct_z7z (cutsJ (cs := CS_z7z I_z7z) rfl .nil .nil (by kernel_rfl) (by kernel_rfl)) (s_z7z_J19 I_z7z)
noncomputable def cb_z7z_J18 : Code := sub [1, 1, 1, 1, 1, 1, 1, 1, 0, 1] code_53
theorem s_z7z_J18 (g : C_z7z) : JumpOk (E_z7z g) g.N cb_z7z_J18 sh_z7z_J18 (LP_z7z_J18 g) := by intro ps; unfold LP_z7z_J18; split; exact .inr fun R K => (by kernel_rfl); exact .inl fun R K => rfl
theorem sf_z7z_J18 [Fuel] : SeqFine (E_z7z I_z7z) NN cb_z7z_J18 := fine_jump sh_z7z_J18 (LP_z7z_J18 I_z7z) (by kernel_rfl) ct_z7z (cutsJ (cs := CS_z7z I_z7z) rfl .nil .nil (by kernel_rfl) (by kernel_rfl)) (s_z7z_J18 I_z7z)
noncomputable def cb_z7z_J17 : Code := sub [1, 1, 1, 1, 1, 1, 1, 1] code_53
theorem s_z7z_J17 (g : C_z7z) : JumpOk (E_z7z g) g.N cb_z7z_J17 sh_z7z_J17 (LP_z7z_J17 g) := by intro ps; unfold LP_z7z_J17; split; exact .inr fun R K => (by kernel_rfl); exact .inl fun R K => rfl
theorem sf_z7z_J17 [Fuel] : SeqFine (E_z7z I_z7z) NN cb_z7z_J17 := fine_jump sh_z7z_J17 (LP_z7z_J17 I_z7z) (by kernel_rfl) ct_z7z (cutsJ (cs := CS_z7z I_z7z) rfl .nil (.cons sf_z7z_J18 (.cons sf_z7z_J19 .nil)) (by kernel_rfl) (by kernel_rfl)) (s_z7z_J17 I_z7z)
noncomputable def cb_z7z_J16 : Code := sub [1, 1, 1, 1, 1, 1, 1, 0, 1] code_53
theorem s_z7z_J16 (g : C_z7z) : JumpOk (E_z7z g) g.N cb_z7z_J16 sh_z7z_J16 (LP_z7z_J16 g) := by intro ps; unfold LP_z7z_J16; split; exact .inr fun R K => (by kernel_rfl); exact .inl fun R K => rfl
theorem sf_z7z_J16 [Fuel] : SeqFine (E_z7z I_z7z) NN cb_z7z_J16 := fine_jump sh_z7z_J16 (LP_z7z_J16 I_z7z) (by kernel_rfl) ct_z7z (cutsJ (cs := CS_z7z I_z7z) rfl .nil .nil (by kernel_rfl) (by kernel_rfl)) (s_z7z_J16 I_z7z)
noncomputable def cb_z7z_J14 : Code := sub [1, 1, 1, 1, 1, 1] code_53
theorem s_z7z_J14 (g : C_z7z) : JumpOk (E_z7z g) g.N cb_z7z_J14 sh_z7z_J14 (LP_z7z_J14 g) := by intro ps; unfold LP_z7z_J14; split; exact .inr fun R K => (by kernel_rfl); exact .inl fun R K => rfl
theorem sf_z7z_J14 [Fuel] : SeqFine (E_z7z I_z7z) NN cb_z7z_J14 := fine_jump sh_z7z_J14 (LP_z7z_J14 I_z7z) (by kernel_rfl) ct_z7z (cutsJ (cs := CS_z7z I_z7z) rfl .nil (.cons sf_z7z_J16 (.cons sf_z7z_J18 (.cons sf_z7z_J19 (.cons sf_z7z_J17 .nil)))) (by kernel_rfl) (by kernel_rfl)) (s_z7z_J14 I_z7z)
noncomputable def cb_z7z_J10 : Code := sub [1, 1, 1, 1, 1] code_53
theorem s_z7z_J10 (g : C_z7z) : JumpOk (E_z7z g) g.N cb_z7z_J10 sh_z7z_J10 (LP_z7z_J10 g) := by intro ps; unfold LP_z7z_J10; split; exact .inr fun R K => (by kernel_rfl); exact .inl fun R K => rfl
theorem sf_z7z_J10 [Fuel] : SeqFine (E_z7z I_z7z) NN cb_z7z_J10 := fine_jump sh_z7z_J10 (LP_z7z_J10 I_z7z) (by kernel_rfl) ct_z7z (cutsJ (cs := CS_z7z I_z7z) rfl .nil (.cons sf_z7z_J16 (.cons sf_z7z_J18 (.cons sf_z7z_J19 (.cons sf_z7z_J17 (.cons sf_z7z_J14 .nil))))) (by kernel_rfl) (by kernel_rfl)) (s_z7z_J10 I_z7z)
theorem sm_z7z (g : C_z7z) : Same (SS_z7z (@z7z_ g)) (abody (E_z7z g) Tryz.f53 code_53 2 [] [.asis] g.N) := by intro args; unfold SS_z7z; split; exact .inr fun R k => (by kernel_rfl); exact .inl fun R k => rfl
theorem ok_z7z [Fuel] : Ok 53 (SS_z7z (@z7z _)) := okF_of std (.cons ok_z45z (.cons ok_z56z .nil)) ⟨rfl, rfl, by kernel_rfl, rfl, rfl, rfl⟩ (sm_z7z I_z7z) (cutsJ (cs := CS_z7z I_z7z) rfl .nil (.cons sf_z7z_J16 (.cons sf_z7z_J18 (.cons sf_z7z_J19 (.cons sf_z7z_J17 (.cons sf_z7z_J14 (.cons sf_z7z_J10 .nil)))))) (by kernel_rfl) (by kernel_rfl)) Tryz.func53 (by kernel_rfl) (by kernel_rfl)
abbrev T_z30z : Type 1 := List G_Change → {R : Type} → (Int → Option R) → Option R
structure C_z30z where
 N : Nat
 z7z : T_z7z
def z30z_L4 (g : C_z30z) : Nat → List G_Change → Int → Int → {R : Type} → (Int → Option R) → Option R → Option R
 | 0, _, _, _, _, _, _ => none
 | n + 1, v2, v3, v4, _, e0, e1 => (bif (decide (v4 < v3)) then (g.z7z v2 v4 (fun r6 => (bif (r6 != 0) then e0 r6 else z30z_L4 g n v2 v3 (w64 (v4 + 1)) e0 e1))) else e1)
def z30z_ (g : C_z30z) (a1 : List G_Change) {R : Type} (k0 : Int → Option R) : Option R :=
 (bif (decide ((a1.length : Int) > 1000)) then k0 2 else (z30z_L4 g g.N a1 (a1.length : Int) 0 (fun e7 => k0 e7) (k0 0)))
noncomputable def I_z30z [Fuel] : C_z30z := ⟨NN, @z7z _⟩
noncomputable def z30z [Fuel] : T_z30z := @z30z_ I_z30z
def SS_z30z (g : T_z30z) : Spec A := fun args => match args with | [.d (.sl 42 a1)] => fun k => g a1 (fun z0 => k (.d (.int .i64 z0)) [.undef]) | _ => fun _ => none
def sh_z30z_L4 : SSt := mkSh 20 0 [(0, .sl 42), (9, .int .i64), (10, .int .i64)] []
def LP_z30z_L4 (g : C_z30z) (n : Nat) : LPT A := fun ps => match ps with | [.d (.sl 42 p1), .d (.int .i64 p2), .d (.int .i64 p3)] => fun K => z30z_L4 g n p1 p2 p3 (fun z0 => K .ret (mkSt 20 0 [(2, .d (.int .i64 z0))] [])) (K (.exit 0) (mkSt 20 0 [] [])) | _ => fun _ => none
noncomputable def code_31 : Code := (Tryz.f31.body).getD .skip
noncomputable def E_z30z (g : C_z30z) : Env A := mkE [(53, SS_z7z g.z7z)] [] [(4, ⟨[0, 9, 10], [], [], [], [], []⟩)] [(4, ⟨[2], [], [], [], [], []⟩)] [(4, pieceOf sh_z30z_L4 (LP_z30z_L4 g g.N))] [] [] [] [] []
theorem ct_z30z [Fuel] : NatTab (E_z30z I_z30z).C := ct_of (P := Tryz.prog) (T := T) (.cons ok_z7z .nil) (by kernel_rfl)
noncomputable def cb_z30z_L4 : Code := sub [1, 1, 0, 1, 0, 0] code_31
theorem s_z30z_L4 (g : C_z30z) (n : Nat) : StepOk (E_z30z g) g.N cb_z30z_L4 sh_z30z_L4 (LP_z30z_L4 g) n := by intro ps; unfold LP_z30z_L4; split; exact .inr fun R K => (by kernel_rfl); exact .inl fun R K => rfl
theorem lf_z30z_L4 [Fuel] : LoopFine (E_z30z I_z30z) NN cb_z30z_L4 := fine_loop sh_z30z_L4 (LP_z30z_L4 I_z30z) (by kernel_rfl) ct_z30z (cuts0 (fun _ => rfl) (by kernel_rfl)) (fun ps R K => by unfold LP_z30z_L4; split <;> (try unfold z30z_L4) <;> rfl) (s_z30z_L4 I_z30z)
theorem sm_z30z (g : C_z30z) : Same (SS_z30z (@z30z_ g)) (abody (E_z30z g) Tryz.f31 code_31 0 [] [.asis] g.N) := by intro args; unfold SS_z30z; split; exact .inr fun R k => (by kernel_rfl); exact .inl fun R k => rfl
theorem ok_z30z [Fuel] : Ok 31 (SS_z30z (@z30z _)) := okF_of std (.cons ok_z7z .nil) ⟨rfl, rfl, by kernel_rfl, rfl, rfl, rfl⟩ (sm_z30z I_z30z) (cutsL (fun _ => rfl) (.cons lf_z30z_L4 .nil) (by kernel_rfl)) Tryz.func31 (by kernel_rfl) (by kernel_rfl)
abbrev T_log_key : Type 1 := G_Contact → {R : Type} → (G_Contact → Option R) → Option R
def log_key_ (g : Nat) (a1 : G_Contact) {R : Type} (k0 : G_Contact → Option R) : Option R :=
 k0 (⟨a1.f_At, a1.f_Mode, a1.f_Band, a1.f_Call, 0, 0, [], []⟩ : G_Contact)
noncomputable def log_key [Fuel] : T_log_key := @log_key_ NN
def SS_log_key (g : T_log_key) : Spec A := fun args => match args with | [.agg [.d (.int .i64 a1), .d (.int .i64 a2), .d (.str a3), .d (.str a4), .d (.int .i64 a5), .d (.int .i64 a6), .d (.str a7), .d (.str a8)]] => fun k => g ⟨a1, a2, a3, a4, a5, a6, a7, a8⟩ (fun z0 => k (.agg [.d (.int .i64 z0.f_At), .d (.int .i64 z0.f_Mode), .d (.str z0.f_Band), .d (.str z0.f_Call), .d (.int .i64 z0.f_Sent), .d (.int .i64 z0.f_Heard), .d (.str z0.f_Gave), .d (.str z0.f_Got)]) [.undef]) | _ => fun _ => none
noncomputable def code_32 : Code := (Tryz.f32.body).getD .skip
noncomputable def E_log_key (g : Nat) : Env A := mkE [] [(1, [0]), (2, [1])] [] [] [] [] [] [] [] []
theorem sm_log_key (g : Nat) : Same (SS_log_key (@log_key_ g)) (abody (E_log_key g) Tryz.f32 code_32 2 [] [.asis] g) := by intro args; unfold SS_log_key; split; exact .inr fun R k => (by kernel_rfl); exact .inl fun R k => rfl
theorem ok_log_key [Fuel] : Ok 32 (SS_log_key (@log_key _)) := okF_of std .nil ⟨rfl, rfl, by kernel_rfl, rfl, rfl, rfl⟩ (sm_log_key NN) (cuts0 (fun _ => rfl) (by kernel_rfl)) Tryz.func32 (by kernel_rfl) (by kernel_rfl)
abbrev T_log_change : Type 1 := List (G_Contact × G_Contact) → G_Change → {R : Type} → (Bool → List (G_Contact × G_Contact) → Option R) → Option R
structure C_log_change where
 N : Nat
 log_key : T_log_key
def log_change_ (g : C_log_change) (a1 : List (G_Contact × G_Contact)) (a2 : G_Change) {R : Type} (k0 : Bool → List (G_Contact × G_Contact) → Option R) : Option R :=
 (g.log_key a2.f_Was (fun r3 => (g.log_key a2.f_Is (fun r4 => (bif (a2.f_Kind != 1) then (bif (!(mget_Contact_Contact r3 a1).isSome) then k0 false a1 else (bif (!(eq_G_Contact (⟨((mget_Contact_Contact r3 a1).getD (⟨0, 0, [], [], 0, 0, [], []⟩ : G_Contact)).f_At, ((mget_Contact_Contact r3 a1).getD (⟨0, 0, [], [], 0, 0, [], []⟩ : G_Contact)).f_Mode, ((mget_Contact_Contact r3 a1).getD (⟨0, 0, [], [], 0, 0, [], []⟩ : G_Contact)).f_Band, ((mget_Contact_Contact r3 a1).getD (⟨0, 0, [], [], 0, 0, [], []⟩ : G_Contact)).f_Call, ((mget_Contact_Contact r3 a1).getD (⟨0, 0, [], [], 0, 0, [], []⟩ : G_Contact)).f_Sent, ((mget_Contact_Contact r3 a1).getD (⟨0, 0, [], [], 0, 0, [], []⟩ : G_Contact)).f_Heard, ((mget_Contact_Contact r3 a1).getD (⟨0, 0, [], [], 0, 0, [], []⟩ : G_Contact)).f_Gave, ((mget_Contact_Contact r3 a1).getD (⟨0, 0, [], [], 0, 0, [], []⟩ : G_Contact)).f_Got⟩ : G_Contact) a2.f_Was)) then k0 false a1 else (bif (a2.f_Kind != 2) then (bif (mget_Contact_Contact r4 a1).isSome then (bif (a2.f_Kind == 1) then k0 false a1 else (bif (!(eq_G_Contact r4 r3)) then k0 false a1 else (bif (a2.f_Kind != 1) then (bif (a2.f_Kind != 2) then k0 true (mset_Contact_Contact r4 a2.f_Is (mdel_Contact_Contact r3 a1)) else k0 true (mdel_Contact_Contact r3 a1)) else (bif (a2.f_Kind != 2) then k0 true (mset_Contact_Contact r4 a2.f_Is a1) else k0 true a1)))) else (bif (a2.f_Kind != 1) then (bif (a2.f_Kind != 2) then k0 true (mset_Contact_Contact r4 a2.f_Is (mdel_Contact_Contact r3 a1)) else k0 true (mdel_Contact_Contact r3 a1)) else (bif (a2.f_Kind != 2) then k0 true (mset_Contact_Contact r4 a2.f_Is a1) else k0 true a1))) else (bif (a2.f_Kind != 1) then (bif (a2.f_Kind != 2) then k0 true (mset_Contact_Contact r4 a2.f_Is (mdel_Contact_Contact r3 a1)) else k0 true (mdel_Contact_Contact r3 a1)) else (bif (a2.f_Kind != 2) then k0 true (mset_Contact_Contact r4 a2.f_Is a1) else k0 true a1))))) else (bif (a2.f_Kind != 2) then (bif (mget_Contact_Contact r4 a1).isSome then (bif (a2.f_Kind == 1) then k0 false a1 else (bif (!(eq_G_Contact r4 r3)) then k0 false a1 else (bif (a2.f_Kind != 1) then (bif (a2.f_Kind != 2) then k0 true (mset_Contact_Contact r4 a2.f_Is (mdel_Contact_Contact r3 a1)) else k0 true (mdel_Contact_Contact r3 a1)) else (bif (a2.f_Kind != 2) then k0 true (mset_Contact_Contact r4 a2.f_Is a1) else k0 true a1)))) else (bif (a2.f_Kind != 1) then (bif (a2.f_Kind != 2) then k0 true (mset_Contact_Contact r4 a2.f_Is (mdel_Contact_Contact r3 a1)) else k0 true (mdel_Contact_Contact r3 a1)) else (bif (a2.f_Kind != 2) then k0 true (mset_Contact_Contact r4 a2.f_Is a1) else k0 true a1))) else (bif (a2.f_Kind != 1) then (bif (a2.f_Kind != 2) then k0 true (mset_Contact_Contact r4 a2.f_Is (mdel_Contact_Contact r3 a1)) else k0 true (mdel_Contact_Contact r3 a1)) else (bif (a2.f_Kind != 2) then k0 true (mset_Contact_Contact r4 a2.f_Is a1) else k0 true a1))))))))
noncomputable def I_log_change [Fuel] : C_log_change := ⟨NN, @log_key _⟩
noncomputable def log_change [Fuel] : T_log_change := @log_change_ I_log_change
def SS_log_change (g : T_log_change) : Spec A := fun args => match args with | [.mp 35 35 a1, .agg [.d (.int .i64 a2), .d (.int .i64 a3), .d (.int .i64 a4), .d (.int .i64 a5), .d (.str a6), .d (.str a7), .d (.int .i64 a8), .d (.int .i64 a9), .d (.str a10), .d (.str a11), .d (.int .i64 a12), .d (.int .i64 a13), .d (.str a14), .d (.str a15), .d (.int .i64 a16), .d (.int .i64 a17), .d (.str a18), .d (.str a19)]] => fun k => g a1 ⟨a2, a3, ⟨a4, a5, a6, a7, a8, a9, a10, a11⟩, ⟨a12, a13, a14, a15, a16, a17, a18, a19⟩⟩ (fun z0 z1 => k (.d (.bool z0)) [.mp 35 35 z1, .undef]) | _ => fun _ => none
noncomputable def code_33 : Code := (Tryz.f33.body).getD .skip
noncomputable def E_log_change (g : C_log_change) : Env A := mkE [(32, SS_log_key g.log_key)] [(3, [1]), (5, [2]), (6, [3]), (7, [4]), (9, [5])] [] [] [] [] [] [] [] [0]
theorem sm_log_change (g : C_log_change) : Same (SS_log_change (@log_change_ g)) (abody (E_log_change g) Tryz.f33 code_33 6 [0] [.asis] g.N) := by intro args; unfold SS_log_change; split; exact .inr fun R k => (by kernel_rfl); exact .inl fun R k => rfl
theorem ok_log_change [Fuel] : Ok 33 (SS_log_change (@log_change _)) := okF_of std (.cons ok_log_key .nil) ⟨rfl, rfl, by kernel_rfl, rfl, rfl, rfl⟩ (sm_log_change I_log_change) (cuts0 (fun _ => rfl) (by kernel_rfl)) Tryz.func33 (by kernel_rfl) (by kernel_rfl)
abbrev T_z26z : Type 1 := List G_Contact → {R : Type} → (List G_Contact → Option R) → Option R
noncomputable def z26z [Fuel] : T_z26z := @X_sortf G_Contact (@z6z _)
def SS_z26z (g : T_z26z) : Spec A := fun args => match args with | [.arr 35 a1, .fn 25 []] => fun k => g a1 (fun z => k (.tup []) [.arr 35 z, .fn 25 []]) | _ => fun _ => none
theorem h1_z26z [Fuel] (xs : List (A 35)) (R : Type) (k : IV A → List (IV A) → Option R) : SS_z26z (@z26z _) [.arr 35 xs, .fn 25 []] k = X_sortf (α := A 35) (@z6z _) xs (fun z => k (.tup []) [.arr 35 z, .fn 25 []]) := by kernel_rfl
theorem h2_z26z [Fuel] (args : List (IV A)) (R : Type) (k : IV A → List (IV A) → Option R) (h : ∀ xs : List (A 35), args ≠ [.arr 35 xs, .fn 25 []]) : SS_z26z (@z26z _) args k = none := by unfold SS_z26z; split; exact absurd rfl (h _); rfl
theorem hc_z26z [Fuel] (x y : A 35) (R : Type) (k : Int → Option R) : callOf T (SS_z6z (@z6z _)) 35 x y k = @z6z _ x y R k := by kernel_rfl
theorem hs_z26z (x : G_Contact) : (enc_e35 x).all scal = true := rfl
theorem ok_z26z [Fuel] : Ok 34 (SS_z26z (@z26z _)) := ⟨sortf_sound (tyOk Tryz.prog) (e := 35) Tryz.sortf34 Tryz.isAgg35 Tryz.sizeOf35 (fun x d hd => List.all_eq_true.1 (hs_z26z x) d hd) hc_z26z okd_z6z.fs okd_z6z.en h1_z26z h2_z26z, sortf_na (e := 35) h1_z26z h2_z26z, enters_of (fn := Tryz.f34) Tryz.func34 (by kernel_rfl) (by kernel_rfl)⟩
abbrev T_z12z : Type 1 := List G_Contact → List G_Change → {R : Type} → (List G_Contact → List Int → Int → Option R) → Option R
structure C_z12z where
 N : Nat
 z13z : T_z13z
 z30z : T_z30z
 log_key : T_log_key
 log_change : T_log_change
 z26z : T_z26z
def z12z_L9 (g : C_z12z) : Nat → List G_Change → List G_Contact → Int → Int → List (G_Contact × G_Contact) → {R : Type} → (List G_Change → List (G_Contact × G_Contact) → Option R) → Option R
 | 0, _, _, _, _, _, _, _ => none
 | n + 1, v5, v6, v7, v8, v9, _, e0 => (bif (decide (v8 < v7)) then (get_ v6 v8 fun x12 => (g.log_key x12 (fun r13 => z12z_L9 g n v5 v6 v7 (w64 (v8 + 1)) (mset_Contact_Contact r13 x12 v9) e0))) else e0 v5 v9)
def z12z_L15 (g : C_z12z) : Nat → List G_Change → Int → Int → List (G_Contact × G_Contact) → List Int → {R : Type} → (List (G_Contact × G_Contact) → List Int → Option R) → Option R
 | 0, _, _, _, _, _, _, _ => none
 | n + 1, v16, v17, v18, v19, v20, _, e0 => (bif (decide (v18 < v17)) then (get_ v16 v18 fun x24 => (g.log_change v19 x24 (fun r25 r26 => (bif (!r25) then (bif (decide ((v20.length + [v18].length) * 8 ≤ roomBytes')) then z12z_L15 g n v16 v17 (w64 (v18 + 1)) r26 (v20 ++ [v18]) e0 else none) else z12z_L15 g n v16 v17 (w64 (v18 + 1)) r26 v20 e0)))) else e0 v19 v20)
noncomputable def z12z_L24 (g : C_z12z) : Nat → List (G_Contact × G_Contact) → List (G_Contact × G_Contact) → List Int → List G_Contact → {R : Type} → (List Int → List G_Contact → Option R) → Option R
 | 0, _, _, _, _, _, _ => none
 | n + 1, m31, l32, v29, v30, _, e0 => (pickAll l32 (e0 v29 v30) fun x35 l36 => (bif (decide ((v30.length + [x35.2].length) * 96 ≤ roomBytes')) then z12z_L24 g n m31 l36 v29 (v30 ++ [x35.2]) e0 else none))
noncomputable def raw_z12z (g : C_z12z) (a1 : List G_Contact) (a2 : List G_Change) {R : Type} (k0 : List G_Contact → List Int → Int → Option R) : Option R :=
 (g.z13z a1 (fun r3 => (bif (r3 != 0) then k0 [] [] r3 else (g.z30z a2 (fun r4 => (bif (r4 != 0) then k0 [] [] r4 else (z12z_L9 g g.N a2 a1 (a1.length : Int) 0 [] (fun e14 e15 => (z12z_L15 g g.N e14 (e14.length : Int) 0 e15 [] (fun e27 e28 => (bif (decide ((e27.length : Int) > 2000)) then k0 [] [] 2 else (z12z_L24 g g.N e27 e27 e28 [] (fun e37 e38 => (g.z26z e38 (fun r39 => k0 r39 e37 0)))))))))))))))
def dec0_z12z (p : IV A × List (IV A)) : Option ((List G_Contact) × (List Int) × Int) := match p with | (.tup [.arr 35 b1, .arr 3 b2, .d (.int .i64 b3)], [.undef, .undef]) => some (b1, b2, b3) | _ => none
def inj0_z12z (q : (List G_Contact) × (List Int) × Int) : IV A × List (IV A) := (.tup [.arr 35 q.1, .arr 3 q.2.1, .d (.int .i64 q.2.2)], [.undef, .undef])
theorem hi0_z12z (p : IV A × List (IV A)) (q : (List G_Contact) × (List Int) × Int) (h : dec0_z12z p = some q) : p = inj0_z12z q := by unfold dec0_z12z at h; split at h; (cases h; rfl); cases h
noncomputable def z12z_ (g : C_z12z) (a1 : List G_Contact) (a2 : List G_Change) {R : Type} (k0 : List G_Contact → List Int → Int → Option R) : Option R :=
 (raw_z12z g a1 a2 (fun z0 z1 z2 => some (inj0_z12z (z0, z1, z2)))).bind fun p => (decK dec0_z12z p (fun q => k0 q.1 q.2.1 q.2.2) none)
noncomputable def I_z12z [Fuel] : C_z12z := ⟨NN, @z13z _, @z30z _, @log_key _, @log_change _, @z26z _⟩
noncomputable def z12z [Fuel] : T_z12z := @z12z_ I_z12z
def SS_z12z (g : T_z12z) : Spec A := fun args => match args with | [.d (.sl 35 a1), .d (.sl 42 a2)] => fun k => g a1 a2 (fun z0 z1 z2 => k (.tup [.arr 35 z0, .arr 3 z1, .d (.int .i64 z2)]) [.undef, .undef]) | _ => fun _ => none
def sh_z12z_L9 : SSt := mkSh 73 10 [(1, .sl 42), (9, .mp 0), (29, .sl 35), (30, .int .i64), (31, .int .i64)] [(0, .mp 35 35)]
def LP_z12z_L9 (g : C_z12z) (n : Nat) : LPT A := fun ps => match ps with | [.d (.sl 42 p1), .d (.sl 35 p2), .d (.int .i64 p3), .d (.int .i64 p4), .mp 35 35 p5] => fun K => z12z_L9 g n p1 p2 p3 p4 p5 (fun z0 z1 => K (.exit 0) (mkSt 73 10 [(1, .d (.sl 42 z0)), (9, .mp 0)] [(0, some (.mp 35 35 z1))])) | _ => fun _ => none
def sh_z12z_L15 : SSt := mkSh 73 10 [(9, .mp 0), (12, .own 3 2), (40, .sl 42), (41, .int .i64), (42, .int .i64)] [(0, .mp 35 35), (2, .row 3)]
def LP_z12z_L15 (g : C_z12z) (n : Nat) : LPT A := fun ps => match ps with | [.d (.sl 42 p1), .d (.int .i64 p2), .d (.int .i64 p3), .mp 35 35 p4, .d (.sl 3 p5)] => fun K => z12z_L15 g n p1 p2 p3 p4 p5 (fun z0 z1 => K (.exit 2) (mkSt 73 10 [(9, .mp 0), (12, .own 3 2)] [(0, some (.mp 35 35 z0)), (2, some (.row 3 z1))])) | _ => fun _ => none
def sh_z12z_L24 : SSt := mkSh 73 10 [(12, .own 3 2), (15, .own 35 6), (59, .mp 0)] [(0, .gone (2, 0)), (2, .row 3), (6, .row 35)]
noncomputable def LP_z12z_L24 (g : C_z12z) (n : Nat) (m l : List (A 35 × A 35)) : LPT A := fun ps => match ps with | [.d (.sl 3 p1), .d (.sl 35 p2)] => fun K => z12z_L24 g n m l p1 p2 (fun z0 z1 => K .normal (mkSt 73 10 [(12, .own 3 2), (15, .own 35 6)] [(2, some (.row 3 z0)), (6, some (.row 35 z1))])) | _ => fun _ => none
noncomputable def code_10 : Code := (Tryz.f10.body).getD .skip
noncomputable def E_z12z (g : C_z12z) : Env A := mkE [(27, SS_z13z g.z13z), (31, SS_z30z g.z30z), (32, SS_log_key g.log_key), (33, SS_log_change g.log_change), (34, SS_z26z g.z26z)] [(11, [1]), (14, [3]), (17, [7]), (28, [0]), (53, [4]), (54, [5]), (67, [8]), (68, [9])] [(9, ⟨[1, 9, 29, 30, 31], [], [0], [], [], []⟩), (15, ⟨[9, 12, 40, 41, 42], [(12, 3, 2)], [0], [], [], []⟩), (24, ⟨[12, 15, 59], [(15, 35, 6)], [0, 2], [], [], []⟩)] [(9, ⟨[1, 9], [], [0], [], [], []⟩), (15, ⟨[9, 12], [], [0, 2], [], [], []⟩), (24, ⟨[12, 15], [], [2, 6], [], [], []⟩)] [(9, pieceOf sh_z12z_L9 (LP_z12z_L9 g g.N)), (15, pieceOf sh_z12z_L15 (LP_z12z_L15 g g.N))] [] [] [] [(34, 0)] []
noncomputable def CR_z12z (g : C_z12z) : Nat → Option (PieceR A) := fun i => List.lookup i [(24, pieceR 0 35 35 sh_z12z_L24 (LP_z12z_L24 g g.N))]
theorem ct_z12z [Fuel] : NatTab (E_z12z I_z12z).C := ct_of (P := Tryz.prog) (T := T) (.cons ok_z13z (.cons ok_z30z (.cons ok_log_key (.cons ok_log_change (.cons ok_z26z .nil))))) (by kernel_rfl)
noncomputable def cb_z12z_L9 : Code := sub [1, 1, 1, 1, 0, 1, 0, 0] code_10
theorem s_z12z_L9 (g : C_z12z) (n : Nat) : StepOk (E_z12z g) g.N cb_z12z_L9 sh_z12z_L9 (LP_z12z_L9 g) n := by intro ps; unfold LP_z12z_L9; split; exact .inr fun R K => (by kernel_rfl); exact .inl fun R K => rfl
theorem lf_z12z_L9 [Fuel] : LoopFine (E_z12z I_z12z) NN cb_z12z_L9 := fine_loop sh_z12z_L9 (LP_z12z_L9 I_z12z) (by kernel_rfl) ct_z12z (cuts0 (fun _ => rfl) (by kernel_rfl)) (fun ps R K => by unfold LP_z12z_L9; split <;> (try unfold z12z_L9) <;> rfl) (s_z12z_L9 I_z12z)
noncomputable def cb_z12z_L15 : Code := sub [1, 1, 1, 1, 1, 1, 0, 1, 0, 0] code_10
theorem s_z12z_L15 (g : C_z12z) (n : Nat) : StepOk (E_z12z g) g.N cb_z12z_L15 sh_z12z_L15 (LP_z12z_L15 g) n := by intro ps; unfold LP_z12z_L15; split; exact .inr fun R K => (by kernel_rfl); exact .inl fun R K => rfl
theorem lf_z12z_L15 [Fuel] : LoopFine (E_z12z I_z12z) NN cb_z12z_L15 := fine_loop sh_z12z_L15 (LP_z12z_L15 I_z12z) (by kernel_rfl) ct_z12z (cuts0 (fun _ => rfl) (by kernel_rfl)) (fun ps R K => by unfold LP_z12z_L15; split <;> (try unfold z12z_L15) <;> rfl) (s_z12z_L15 I_z12z)
noncomputable def rp_z12z_L24 : RangeP := (rangeOf (sub [1, 1, 1, 1, 1, 1, 1, 1, 1, 0, 0] code_10) (sub [1, 1, 1, 1, 1, 1, 1, 1, 1, 0, 1] code_10)).get (by kernel_rfl)
theorem s_z12z_L24 (g : C_z12z) (n : Nat) : RStepOk (E_z12z g) g.N rp_z12z_L24 0 35 35 sh_z12z_L24 (LP_z12z_L24 g) n := by intro m l ps; unfold LP_z12z_L24; split; exact .inr fun R K => (by kernel_rfl); exact .inl fun R K => rfl
theorem lf_z12z_L24 [Fuel] : ROk (E_z12z I_z12z) (CR_z12z I_z12z) NN rp_z12z_L24 := fine_range sh_z12z_L24 (LP_z12z_L24 I_z12z) (by kernel_rfl) (cuts0 (fun _ => rfl) (by kernel_rfl)) (fun m l ps R K => by unfold LP_z12z_L24; split <;> (try unfold z12z_L24) <;> rfl) (s_z12z_L24 I_z12z)
theorem sm_z12z (g : C_z12z) : Same (SS_z12z (@raw_z12z g)) (abodyR (E_z12z g) (CR_z12z g) Tryz.f10 code_10 10 [] [.arr 35, .arr 3, .asis] g.N) := by intro args; unfold SS_z12z; split; exact .inr fun R k => (by kernel_rfl); exact .inl fun R k => rfl
theorem wh_z12z (g : C_z12z) : Whole (SS_z12z (@z12z_ g)) (SS_z12z (@raw_z12z g)) := by
 intro args R k res h
 unfold SS_z12z at h
 split at h
 ·obtain ⟨p, hp, h⟩ := Option.bind_eq_some_iff.1 h
  exact ⟨p, hp, (decK_hc (inj := inj0_z12z) hi0_z12z (fun h => (by cases h)) h)⟩
 ·cases h
theorem nx_z12z (g : C_z12z) : NatSpec (SS_z12z (@z12z_ g)) := by
 intro args R k
 unfold SS_z12z
 split
 ·unfold z12z_
  rw [Option.bind_assoc]
  exact congrArg (Option.bind _) (funext fun p => (decK_na (inj := inj0_z12z) rfl))
 ·rfl
theorem ok_z12z [Fuel] : Ok 10 (SS_z12z (@z12z _)) := okR_of std (.cons ok_z13z (.cons ok_z30z (.cons ok_log_key (.cons ok_log_change (.cons ok_z26z .nil))))) ⟨rfl, rfl, by kernel_rfl, rfl, rfl, rfl⟩ (sm_z12z I_z12z) (wh_z12z I_z12z) (nx_z12z I_z12z) (cutsR (fun _ => rfl) (.cons lf_z12z_L9 (.cons lf_z12z_L15 .nil)) (.cons lf_z12z_L24 .nil) (by kernel_rfl) (by kernel_rfl)) Tryz.func10 (by kernel_rfl) (by kernel_rfl)
abbrev T_z38z : Type 1 := List G_Contact → List G_Contact → {R : Type} → (Bool → Option R) → Option R
def z38z_L4 (g : Nat) : Nat → List G_Contact → List G_Contact → Int → Int → {R : Type} → (Bool → Option R) → Option R → Option R
 | 0, _, _, _, _, _, _, _ => none
 | n + 1, v3, v4, v5, v6, _, e0, e1 => (bif (decide (v6 < v5)) then (get_ v3 v6 fun x9 => (get_ v4 v6 fun x10 => (bif (!(eq_G_Contact x9 x10)) then e0 false else z38z_L4 g n v3 v4 v5 (w64 (v6 + 1)) e0 e1))) else e1)
def z38z_ (g : Nat) (a1 a2 : List G_Contact) {R : Type} (k0 : Bool → Option R) : Option R :=
 (bif ((a1.length : Int) != (a2.length : Int)) then k0 false else (z38z_L4 g g a1 a2 (a1.length : Int) 0 (fun e11 => k0 e11) (k0 true)))
noncomputable def z38z [Fuel] : T_z38z := @z38z_ NN
def SS_z38z (g : T_z38z) : Spec A := fun args => match args with | [.d (.sl 35 a1), .d (.sl 35 a2)] => fun k => g a1 a2 (fun z0 => k (.d (.bool z0)) [.undef, .undef]) | _ => fun _ => none
def sh_z38z_L4 : SSt := mkSh 26 0 [(0, .sl 35), (1, .sl 35), (12, .int .i64), (13, .int .i64)] []
def LP_z38z_L4 (g : Nat) (n : Nat) : LPT A := fun ps => match ps with | [.d (.sl 35 p1), .d (.sl 35 p2), .d (.int .i64 p3), .d (.int .i64 p4)] => fun K => z38z_L4 g n p1 p2 p3 p4 (fun z0 => K .ret (mkSt 26 0 [(4, .d (.bool z0))] [])) (K (.exit 0) (mkSt 26 0 [] [])) | _ => fun _ => none
noncomputable def code_11 : Code := (Tryz.f11.body).getD .skip
noncomputable def E_z38z (g : Nat) : Env A := mkE [] [] [(4, ⟨[0, 1, 12, 13], [], [], [], [], []⟩)] [(4, ⟨[4], [], [], [], [], []⟩)] [(4, pieceOf sh_z38z_L4 (LP_z38z_L4 g g))] [] [] [] [] []
theorem ct_z38z [Fuel] : NatTab (E_z38z NN).C := ct_of (P := Tryz.prog) (T := T) .nil (by kernel_rfl)
noncomputable def cb_z38z_L4 : Code := sub [1, 1, 0, 1, 0, 0] code_11
theorem s_z38z_L4 (g : Nat) (n : Nat) : StepOk (E_z38z g) g cb_z38z_L4 sh_z38z_L4 (LP_z38z_L4 g) n := by intro ps; unfold LP_z38z_L4; split; exact .inr fun R K => (by kernel_rfl); exact .inl fun R K => rfl
theorem lf_z38z_L4 [Fuel] : LoopFine (E_z38z NN) NN cb_z38z_L4 := fine_loop sh_z38z_L4 (LP_z38z_L4 NN) (by kernel_rfl) ct_z38z (cuts0 (fun _ => rfl) (by kernel_rfl)) (fun ps R K => by unfold LP_z38z_L4; split <;> (try unfold z38z_L4) <;> rfl) (s_z38z_L4 NN)
theorem sm_z38z (g : Nat) : Same (SS_z38z (@z38z_ g)) (abody (E_z38z g) Tryz.f11 code_11 0 [] [.asis] g) := by intro args; unfold SS_z38z; split; exact .inr fun R k => (by kernel_rfl); exact .inl fun R k => rfl
theorem ok_z38z [Fuel] : Ok 11 (SS_z38z (@z38z _)) := okF_of std .nil ⟨rfl, rfl, by kernel_rfl, rfl, rfl, rfl⟩ (sm_z38z NN) (cutsL (fun _ => rfl) (.cons lf_z38z_L4 .nil) (by kernel_rfl)) Tryz.func11 (by kernel_rfl) (by kernel_rfl)
end Go.Am
