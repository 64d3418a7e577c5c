/- The plain law, in Lean alone: N1, M1, M2, M3. No condition: lemmas for the claim. -/
import Derived.Test.YtocbeijefjbpgaaGreatDoorPlD1
import Derived.Test.YtocbeijefjbpgaaGreatDoorPlS1
set_option linter.unusedVariables false
set_option linter.unusedSectionVars false
set_option linter.unusedSimpArgs false
set_option maxRecDepth 100000
namespace Go.Am
open Go Go.Proofs
variable [Fuel]
def keysT : List (List UInt8) := [[97, 108, 108], [99, 111, 100, 101], [65]]
theorem keysT_ok : keysT.all (fun s => okBool (kit_IsKey s some) (Q_Key s some)) = true := by
 obtain ⟨m, h, rfl⟩ := fuel_is ‹Fuel›
 kernel_rfl
theorem kit_IsKeyT_is {s : List UInt8} (h : s ∈ keysT) (R : Type) (k : Bool → Option R) : kit_IsKey s k = k (keyB s) :=
 nat_bool ok_kit_IsKey.na (args := [.d (.str s)]) (F := @kit_IsKey _ s) (fun _ _ => rfl) (okBool_is (List.all_eq_true.1 keysT_ok s h)).1 R k
theorem Q_KeyT_is {s : List UInt8} (h : s ∈ keysT) (R : Type) (k : Bool → Option R) : Q_Key s k = k (keyB s) :=
 nat_bool ok_Q_Key.na (args := [.d (.str s)]) (F := @Q_Key _ s) (fun _ _ => rfl) (okBool_is (List.all_eq_true.1 keysT_ok s h)).2 R k
end Go.Am
set_option linter.unusedVariables false
set_option linter.unusedSectionVars false
set_option linter.unusedSimpArgs false
set_option maxRecDepth 100000
namespace Go.Am
open Go Go.Proofs
variable [Fuel]
def sqL : List (List UInt8) := [[106, 111, 54, 50], [107, 112], [107, 112, 50, 48], [107, 112, 50, 48, 108, 102], [122, 122], [107, 112, 50], [107, 112, 50, 48, 108, 102, 120], [75, 80], [114, 114, 57, 57, 120, 120], [97, 97], [115, 97]]
def locL : List (List UInt8) := [[107, 112, 50, 48, 108, 102], [107, 112, 50, 48, 97, 97], [107, 112, 50, 49, 120, 120], [106, 111, 54, 50, 113, 109], [97, 97, 48, 48, 97, 97], [107, 112, 50, 48], [107, 112, 50, 48, 108, 122]]
end Go.Am
set_option linter.unusedVariables false
set_option linter.unusedSectionVars false
set_option linter.unusedSimpArgs false
set_option maxRecDepth 100000
namespace Go.Am
open Go Go.Proofs
variable [Fuel]
end Go.Am
set_option linter.unusedVariables false
set_option linter.unusedSectionVars false
set_option linter.unusedSimpArgs false
set_option maxRecDepth 100000
namespace Go.Am
open Go Go.Proofs
variable [Fuel]
noncomputable def sqB (s : List UInt8) : Bool := (club_isSquare s some).getD false
theorem sq_ok : (sqL ++ locL).all (fun s => okBool (club_isSquare s some) (Q_Square s some)) = true := by
 obtain ⟨m, h, rfl⟩ := fuel_is ‹Fuel›
 kernel_rfl
theorem club_isSquare_is {s : List UInt8} (h : s ∈ sqL ++ locL) (R : Type) (k : Bool → Option R) : club_isSquare s k = k (sqB s) :=
 nat_bool ok_club_isSquare.na (args := [.d (.str s)]) (F := @club_isSquare _ s) (fun _ _ => rfl) (okBool_is (List.all_eq_true.1 sq_ok s h)).1 R k
theorem Q_Square_is {s : List UInt8} (h : s ∈ sqL ++ locL) (R : Type) (k : Bool → Option R) : Q_Square s k = k (sqB s) :=
 nat_bool ok_Q_Square.na (args := [.d (.str s)]) (F := @Q_Square _ s) (fun _ _ => rfl) (okBool_is (List.all_eq_true.1 sq_ok s h)).2 R k
noncomputable def locB (s : List UInt8) : Bool := bif (s.length : Int) == 6 then sqB s else false
theorem club_isLocator_is {s : List UInt8} (h : s ∈ locL) (R : Type) (k : Bool → Option R) : club_isLocator s k = k (locB s) := by
 simp only [club_isLocator, club_isLocator_, I_club_isLocator, club_isSquare_is (List.mem_append_right _ h), locB]
 cases (s.length : Int) == 6 <;> rfl
theorem Q_locator_is {s : List UInt8} (h : s ∈ locL) (R : Type) (k : Bool → Option R) : Q_locator s k = k (locB s) := by
 simp only [Q_locator, Q_locator_, I_Q_locator, Q_Square_is (List.mem_append_right _ h), locB]
 cases (s.length : Int) == 6 <;> rfl
end Go.Am
