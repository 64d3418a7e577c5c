/-
  NARROWER THAN 'FOR EVERY INPUT', by the rows' own cells (each row's printed sentence says how): LogsChanged: laid · CardsConfirm: laid · DeedsMerge: laid · SegmentsPermit: laid.
  DERIVED. THE GIVEN ROWS OF THIS SEAT. 4 by the template 'for every input the law returns true; each argument reads behind the call as it read before'; 0 by the template 'total and deterministic' (their statements: YtecelackdggokaaGreatDoorTotals.lean).
  GIVEN WITH THE SEED: the statements are not yours to turn. If you find one false, say at which input.
  Laid BY PROGRAM, IN A SANDBOX (cutbox-rows.mjs): the forced cells as the released guide's own fill.sh prints them over the translation c783aa64fed92866… (all of the seat's roots in one cut). By AI agents, Wed Nov 11 2026. No macro, syntax, notation, axiom, sorry.
-/
import Derived.Test.YtecelackdggokaaGreatDoorChecked
import GoSem.PinnedTables
import GoSem.Claim
import GoSem.ClaimJoined
import GoSem.ClaimMapViews
import Derived.JoinedTies
import Derived.KernelRfl
namespace Go.Proofs.YtecelackdggokaaGreatDoor
/- THE CELL 'sum', in the pinned program and in every row, IS THE sha256 OF THE DUMP (.gsa) THAT YtecelackdggokaaGreatDoorProg.lean LOADS. Nothing in Lean hashes anything: it is a label: what it is worth is what the hold of that sum in a sandbox is worth. -/
noncomputable def Tryz.pinned : Pinned := { name := "ytecelackdggokaagreatdoor", sum := "c783aa64fed9286674672cea7f569a3aa37020d03b8d70d7b5bbde26b4963cc5", checked := Tryz.checked }
namespace Rows
def none {H : Type} : Left H := { results := [], args := [] }

/- WHAT THE LISTED PACKAGE-LEVEL VARIABLES READ AS WHEN THE CALL BEGINS. Each datum BY PROGRAM (the guide's laid-datum.mjs) off the statement by which the dump's own 'gosem.cut.vars' lays the variable. In a bare row this is a premise. The card (YtecelackdggokaaGreatDoorCards.lean) ties it to the program's text. -/
def laid_unicode_utf8_acceptRanges {H : Type} : DataW H := .agg [.agg [.lit (.int .u8 128), .lit (.int .u8 191)], .agg [.lit (.int .u8 160), .lit (.int .u8 191)], .agg [.lit (.int .u8 128), .lit (.int .u8 159)], .agg [.lit (.int .u8 144), .lit (.int .u8 191)], .agg [.lit (.int .u8 128), .lit (.int .u8 143)], .agg [.lit (.int .u8 0), .lit (.int .u8 0)], .agg [.lit (.int .u8 0), .lit (.int .u8 0)], .agg [.lit (.int .u8 0), .lit (.int .u8 0)], .agg [.lit (.int .u8 0), .lit (.int .u8 0)], .agg [.lit (.int .u8 0), .lit (.int .u8 0)], .agg [.lit (.int .u8 0), .lit (.int .u8 0)], .agg [.lit (.int .u8 0), .lit (.int .u8 0)], .agg [.lit (.int .u8 0), .lit (.int .u8 0)], .agg [.lit (.int .u8 0), .lit (.int .u8 0)], .agg [.lit (.int .u8 0), .lit (.int .u8 0)], .agg [.lit (.int .u8 0), .lit (.int .u8 0)]]
/-- One of Go's own tables, pinned by name: the form's constant. -/
def laid_unicode_utf8_first : DataW Unit := Go.Pinned.utf8First

/-- 'pilelaw2.LogsChanged': WHATEVER THE INPUT: true; the input reads as it did. -/
def logsChangedSpec : ChangeSpec := { name := "logsChanged", fn := fun _ => fun
  | [d] => { results := [.lit (.bool true)], args := [d] }
  | _ => none }
def logsChangedRow : OpenClaim := { program := "ytecelackdggokaagreatdoor", sum := "c783aa64fed9286674672cea7f569a3aa37020d03b8d70d7b5bbde26b4963cc5", func := "pileup/pilelaw2.LogsChanged", spec := "logsChanged", inPlace := ["internal/bytealg.abigen_runtime_cmpstring", "internal/bytealg.IndexByteString", "internal/bytealg.IndexString"], unfollowed := true, recurses := true, named := ["unicode/utf8.first", "unicode/utf8.acceptRanges", "internal/bytealg.MaxLen"], plainKeys := false, apart := false, laid := [("unicode/utf8.acceptRanges", laid_unicode_utf8_acceptRanges), ("unicode/utf8.first", laid_unicode_utf8_first)] }
def LogsChangedSaid : Prop := logsChangedRow.holds Tryz.pinned (OpenSpec.ofChange logsChangedSpec)

/-- ITS FALSE NEIGHBOUR: 'it returns false'. Refute it at one input. -/
def logsChangedWrong : ChangeSpec := { name := "logsChanged", fn := fun _ => fun
  | [d] => { results := [.lit (.bool false)], args := [d] }
  | _ => none }
def LogsChangedWrongFalsely : Prop := logsChangedRow.holds Tryz.pinned (OpenSpec.ofChange logsChangedWrong)

/-- 'pilelaw2.CardsConfirm': WHATEVER THE INPUT: true; the input reads as it did. -/
def cardsConfirmSpec : ChangeSpec := { name := "cardsConfirm", fn := fun _ => fun
  | [d] => { results := [.lit (.bool true)], args := [d] }
  | _ => none }
def cardsConfirmRow : OpenClaim := { program := "ytecelackdggokaagreatdoor", sum := "c783aa64fed9286674672cea7f569a3aa37020d03b8d70d7b5bbde26b4963cc5", func := "pileup/pilelaw2.CardsConfirm", spec := "cardsConfirm", inPlace := ["internal/bytealg.abigen_runtime_cmpstring", "internal/bytealg.IndexByteString", "internal/bytealg.IndexString"], unfollowed := true, recurses := true, named := ["unicode/utf8.first", "unicode/utf8.acceptRanges", "internal/bytealg.MaxLen"], plainKeys := false, apart := false, laid := [("unicode/utf8.acceptRanges", laid_unicode_utf8_acceptRanges), ("unicode/utf8.first", laid_unicode_utf8_first)] }
def CardsConfirmSaid : Prop := cardsConfirmRow.holds Tryz.pinned (OpenSpec.ofChange cardsConfirmSpec)

/-- ITS FALSE NEIGHBOUR: 'it returns false'. Refute it at one input. -/
def cardsConfirmWrong : ChangeSpec := { name := "cardsConfirm", fn := fun _ => fun
  | [d] => { results := [.lit (.bool false)], args := [d] }
  | _ => none }
def CardsConfirmWrongFalsely : Prop := cardsConfirmRow.holds Tryz.pinned (OpenSpec.ofChange cardsConfirmWrong)

/-- 'pilelaw2.DeedsMerge': WHATEVER THE INPUT: true; the input reads as it did. -/
def deedsMergeSpec : ChangeSpec := { name := "deedsMerge", fn := fun _ => fun
  | [d] => { results := [.lit (.bool true)], args := [d] }
  | _ => none }
def deedsMergeRow : OpenClaim := { program := "ytecelackdggokaagreatdoor", sum := "c783aa64fed9286674672cea7f569a3aa37020d03b8d70d7b5bbde26b4963cc5", func := "pileup/pilelaw2.DeedsMerge", spec := "deedsMerge", inPlace := ["internal/bytealg.abigen_runtime_cmpstring", "internal/bytealg.IndexByteString", "internal/bytealg.IndexString"], unfollowed := true, recurses := true, named := ["internal/bytealg.MaxLen", "unicode/utf8.first", "unicode/utf8.acceptRanges"], plainKeys := false, apart := false, laid := [("unicode/utf8.acceptRanges", laid_unicode_utf8_acceptRanges), ("unicode/utf8.first", laid_unicode_utf8_first)] }
def DeedsMergeSaid : Prop := deedsMergeRow.holds Tryz.pinned (OpenSpec.ofChange deedsMergeSpec)

/-- ITS FALSE NEIGHBOUR: 'it returns false'. Refute it at one input. -/
def deedsMergeWrong : ChangeSpec := { name := "deedsMerge", fn := fun _ => fun
  | [d] => { results := [.lit (.bool false)], args := [d] }
  | _ => none }
def DeedsMergeWrongFalsely : Prop := deedsMergeRow.holds Tryz.pinned (OpenSpec.ofChange deedsMergeWrong)

/-- 'pilelaw2.SegmentsPermit': WHATEVER THE INPUT: true; the input reads as it did. -/
def segmentsPermitSpec : ChangeSpec := { name := "segmentsPermit", fn := fun _ => fun
  | [d] => { results := [.lit (.bool true)], args := [d] }
  | _ => none }
def segmentsPermitRow : OpenClaim := { program := "ytecelackdggokaagreatdoor", sum := "c783aa64fed9286674672cea7f569a3aa37020d03b8d70d7b5bbde26b4963cc5", func := "pileup/pilelaw2.SegmentsPermit", spec := "segmentsPermit", inPlace := ["internal/bytealg.IndexByteString", "internal/bytealg.IndexString", "internal/bytealg.abigen_runtime_cmpstring"], unfollowed := true, recurses := true, named := ["unicode/utf8.first", "unicode/utf8.acceptRanges", "internal/bytealg.MaxLen"], plainKeys := false, apart := false, laid := [("unicode/utf8.acceptRanges", laid_unicode_utf8_acceptRanges), ("unicode/utf8.first", laid_unicode_utf8_first)] }
def SegmentsPermitSaid : Prop := segmentsPermitRow.holds Tryz.pinned (OpenSpec.ofChange segmentsPermitSpec)

/-- ITS FALSE NEIGHBOUR: 'it returns false'. Refute it at one input. -/
def segmentsPermitWrong : ChangeSpec := { name := "segmentsPermit", fn := fun _ => fun
  | [d] => { results := [.lit (.bool false)], args := [d] }
  | _ => none }
def SegmentsPermitWrongFalsely : Prop := segmentsPermitRow.holds Tryz.pinned (OpenSpec.ofChange segmentsPermitWrong)

/- THE SECOND FORM. 'bulk': how many values and letters a reading holds, each counted each time it is reached (what is shared counts as often as it is met; a slice's spare places count too). A statement '..UptoSaid' is the law's where the arguments, and the package variables that the reading takes, are together of bulk at most 1048576: NARROWER than '..Said'. Prove '..Said' where nothing that the law and all that it calls make is longer than what came in: it says more and counts as full. Else prove '..UptoSaid'. A law counts once. -/
mutual
def uptoBulk {H : Type} : DataW H → Nat
  | .lit (.string bytes) => bytes.length + 1
  | .lit _ => 1
  | .nil => 1
  | .ptr d => uptoBulk d + 1
  | .slice elems spare => uptoBulkAll elems + uptoBulkAll spare + 1
  | .agg parts => uptoBulkAll parts + 1
  | .iface _ d => uptoBulk d + 1
  | .map entries => uptoBulkEntries entries + 1
  | .held _ => 1
def uptoBulkAll {H : Type} : List (DataW H) → Nat
  | [] => 0
  | d :: r => uptoBulk d + uptoBulkAll r
def uptoBulkEntries {H : Type} : List (Lit × DataW H) → Nat
  | [] => 0
  | x :: r => uptoBulkEntry x + uptoBulkEntries r
def uptoBulkEntry {H : Type} : Lit × DataW H → Nat
  | (.string bytes, d) => bytes.length + uptoBulk d + 1
  | (_, d) => uptoBulk d + 1
 end
def uptoSmall : (H : Type) → List (DataW H) → Bool := fun _ ds => decide (uptoBulkAll ds ≤ 1048576)
def OpenSpec.upto (s : _root_.Go.ChangeSpec) : _root_.Go.OpenSpec := { _root_.Go.OpenSpec.ofChange s with cond := some uptoSmall }

/-- 'pilelaw2.LogsChanged', WHERE WHAT IT READS IS OF BULK AT MOST 1048576: true; the input reads as it did. -/
def logsChangedUptoRow : OpenClaim := { program := "ytecelackdggokaagreatdoor", sum := "c783aa64fed9286674672cea7f569a3aa37020d03b8d70d7b5bbde26b4963cc5", func := "pileup/pilelaw2.LogsChanged", spec := "logsChanged", inPlace := ["internal/bytealg.abigen_runtime_cmpstring", "internal/bytealg.IndexByteString", "internal/bytealg.IndexString"], unfollowed := true, recurses := true, named := ["unicode/utf8.first", "unicode/utf8.acceptRanges", "internal/bytealg.MaxLen"], plainKeys := false, apart := false, laid := [("unicode/utf8.acceptRanges", laid_unicode_utf8_acceptRanges), ("unicode/utf8.first", laid_unicode_utf8_first)], narrowed := true }
def LogsChangedUptoSaid : Prop := logsChangedUptoRow.holds Tryz.pinned (OpenSpec.upto logsChangedSpec)

/-- 'pilelaw2.CardsConfirm', WHERE WHAT IT READS IS OF BULK AT MOST 1048576: true; the input reads as it did. -/
def cardsConfirmUptoRow : OpenClaim := { program := "ytecelackdggokaagreatdoor", sum := "c783aa64fed9286674672cea7f569a3aa37020d03b8d70d7b5bbde26b4963cc5", func := "pileup/pilelaw2.CardsConfirm", spec := "cardsConfirm", inPlace := ["internal/bytealg.abigen_runtime_cmpstring", "internal/bytealg.IndexByteString", "internal/bytealg.IndexString"], unfollowed := true, recurses := true, named := ["unicode/utf8.first", "unicode/utf8.acceptRanges", "internal/bytealg.MaxLen"], plainKeys := false, apart := false, laid := [("unicode/utf8.acceptRanges", laid_unicode_utf8_acceptRanges), ("unicode/utf8.first", laid_unicode_utf8_first)], narrowed := true }
def CardsConfirmUptoSaid : Prop := cardsConfirmUptoRow.holds Tryz.pinned (OpenSpec.upto cardsConfirmSpec)

/-- 'pilelaw2.DeedsMerge', WHERE WHAT IT READS IS OF BULK AT MOST 1048576: true; the input reads as it did. -/
def deedsMergeUptoRow : OpenClaim := { program := "ytecelackdggokaagreatdoor", sum := "c783aa64fed9286674672cea7f569a3aa37020d03b8d70d7b5bbde26b4963cc5", func := "pileup/pilelaw2.DeedsMerge", spec := "deedsMerge", inPlace := ["internal/bytealg.abigen_runtime_cmpstring", "internal/bytealg.IndexByteString", "internal/bytealg.IndexString"], unfollowed := true, recurses := true, named := ["internal/bytealg.MaxLen", "unicode/utf8.first", "unicode/utf8.acceptRanges"], plainKeys := false, apart := false, laid := [("unicode/utf8.acceptRanges", laid_unicode_utf8_acceptRanges), ("unicode/utf8.first", laid_unicode_utf8_first)], narrowed := true }
def DeedsMergeUptoSaid : Prop := deedsMergeUptoRow.holds Tryz.pinned (OpenSpec.upto deedsMergeSpec)

/-- 'pilelaw2.SegmentsPermit', WHERE WHAT IT READS IS OF BULK AT MOST 1048576: true; the input reads as it did. -/
def segmentsPermitUptoRow : OpenClaim := { program := "ytecelackdggokaagreatdoor", sum := "c783aa64fed9286674672cea7f569a3aa37020d03b8d70d7b5bbde26b4963cc5", func := "pileup/pilelaw2.SegmentsPermit", spec := "segmentsPermit", inPlace := ["internal/bytealg.IndexByteString", "internal/bytealg.IndexString", "internal/bytealg.abigen_runtime_cmpstring"], unfollowed := true, recurses := true, named := ["unicode/utf8.first", "unicode/utf8.acceptRanges", "internal/bytealg.MaxLen"], plainKeys := false, apart := false, laid := [("unicode/utf8.acceptRanges", laid_unicode_utf8_acceptRanges), ("unicode/utf8.first", laid_unicode_utf8_first)], narrowed := true }
def SegmentsPermitUptoSaid : Prop := segmentsPermitUptoRow.holds Tryz.pinned (OpenSpec.upto segmentsPermitSpec)

end Rows
end Go.Proofs.YtecelackdggokaaGreatDoor
