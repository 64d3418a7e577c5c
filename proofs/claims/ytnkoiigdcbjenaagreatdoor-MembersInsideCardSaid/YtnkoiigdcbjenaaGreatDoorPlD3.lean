/- The plain law, in Lean alone: D3. No condition: lemmas for the claim. -/
import Derived.Test.YtnkoiigdcbjenaaGreatDoorPlD1
import Derived.Test.YtnkoiigdcbjenaaGreatDoorPlS1
set_option linter.unusedVariables false
set_option linter.unusedSectionVars false
set_option linter.unusedSimpArgs false
set_option maxRecDepth 100000
namespace Go.Am
open Go Go.Proofs
variable [Fuel]
theorem cmp_ranked : Ords (fun x y : G_Place => orL [cmpI y.f_Points x.f_Points, Lib.compareBytes x.f_Key y.f_Key]) :=
  .lex (⟨fun x y => ords_cmpI.anti _ _, fun x y z h1 h2 => ords_cmpI.trans _ _ _ h2 h1⟩ : Ords fun x y : G_Place => cmpI y.f_Points x.f_Points) (.lex (ords_cb.on fun c : G_Place => c.f_Key) .nil)
theorem club_ranked_1_is (x y : G_Place) (R : Type) (k : Int → Option R) : club_ranked_1 x y k = k (orL [cmpI y.f_Points x.f_Points, Lib.compareBytes x.f_Key y.f_Key]) := by
  simp only [club_ranked_1, club_ranked_1_, I_club_ranked_1, cmp_Compare__int_is, strings_Compare_is]
  rw [cmp_Or__int_is _ (by simp)]
theorem sortf_place (x : G_Place) (R : Type) (k : List G_Place → Option R) : slices_SortFunc__Place_club_ranked_1 [x] k = k [x] := by
  have h : slices_SortFunc__Place_club_ranked_1 [x] k = k (sortI (fun x y : G_Place => orL [cmpI y.f_Points x.f_Points, Lib.compareBytes x.f_Key y.f_Key]) [x]) :=
    X_sortf_one cmp_ranked (by simp) (fun a ha b hb _ => by simp at ha hb; rw [ha, hb]) (fun x _ y _ => club_ranked_1_is x y) k
  rw [h]; rfl
theorem entrants_ok (R : Type) (k : Int → Option R) : club_CheckEntrants [(⟨[107, 49, 97, 98], [99], 5, []⟩ : G_Entrant)] k = k 0 := by
  obtain ⟨m, h, rfl⟩ := fuel_is ‹Fuel›
  kernel_rfl
theorem key_ok (R : Type) (k : Bool → Option R) : kit_IsKey [99] k = k true := by
  obtain ⟨m, h, rfl⟩ := fuel_is ‹Fuel›
  kernel_rfl
theorem ranked_one (x : G_Place) (R : Type) (k : List G_Place → Option R) : club_ranked [x] k = k [⟨1, x.f_Points, x.f_Key⟩] := by
  obtain ⟨m, e, hm⟩ := NN_succ
  obtain ⟨m, rfl⟩ : ∃ q, m = q + 1 := ⟨m - 1, by omega⟩
  simp only [club_ranked, club_ranked_]
  rw [show I_club_ranked.N = m + 1 + 1 from e]
  simp only [I_club_ranked, sortf_place]
  rfl
theorem table_one (R : Type) (k : List G_Place → Int → Option R) : club_Table [(⟨[107, 49, 97, 98], [99], 5, []⟩ : G_Entrant)] [99] k = k [⟨1, 5, [107, 49, 97, 98]⟩] 0 := by
  have h : ∀ e0 : List G_Place → Option R, club_Table_L8 I_club_Table I_club_Table.N [99] [(⟨[107, 49, 97, 98], [99], 5, []⟩ : G_Entrant)] (([(⟨[107, 49, 97, 98], [99], 5, []⟩ : G_Entrant)] : List G_Entrant).length : Int) 0 [] e0 = e0 [⟨0, 5, [107, 49, 97, 98]⟩] := fun e0 => by
    obtain ⟨m, e, hm⟩ := NN_succ
    obtain ⟨m, rfl⟩ : ∃ q, m = q + 1 := ⟨m - 1, by omega⟩
    rw [show I_club_Table.N = m + 1 + 1 from e]
    rfl
  simp only [I_club_Table] at h
  simp only [club_Table, club_Table_, I_club_Table, entrants_ok, key_ok, h, ranked_one]
  rfl
theorem law_joinedClub_is (R : Type) (k : Bool → Option R) : law_joinedClub k = k true := by
  simp only [law_joinedClub, law_joinedClub_, I_law_joinedClub, table_one]
  rfl
end Go.Am
