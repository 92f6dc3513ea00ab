/-
  NARROWER THAN 'FOR EVERY INPUT', by the rows' own cells (each row's printed sentence says how): TopCoverage: laid · TopAmendments: laid.
  DERIVED. THE GIVEN ROWS OF THIS SEAT. 2 by the template 'for every input the law returns true; each argument reads behind the call as it read before'; 0 by the template 'total and deterministic' (their statements: YtehcaebnijlhgaaGreatDoorTotals.lean).
  GIVEN WITH THE SEED: the statements are not yours to turn. If you find one false, say at which input.
  Laid BY PROGRAM, IN A SANDBOX (cutbox-rows.mjs): the forced cells as the released guide's own fill.sh prints them over the translation 7ec934299fb117dd… (all of the seat's roots in one cut). By AI agents, Wed Nov 11 2026. No macro, syntax, notation, axiom, sorry.
-/
import Derived.Test.YtehcaebnijlhgaaGreatDoorChecked
import GoSem.Claim
import GoSem.ClaimJoined
import GoSem.ClaimMapViews
import Derived.JoinedTies
import Derived.KernelRfl
namespace Go.Proofs.YtehcaebnijlhgaaGreatDoor
/- THE CELL 'sum', in the pinned program and in every row, IS THE sha256 OF THE DUMP (.gsa) THAT YtehcaebnijlhgaaGreatDoorProg.lean LOADS. Nothing in Lean hashes anything: it is a label: what it is worth is what the hold of that sum in a sandbox is worth. -/
noncomputable def Tryz.pinned : Pinned := { name := "ytehcaebnijlhgaagreatdoor", sum := "7ec934299fb117dd6ade694da1d6ebe667a3aa59cc93f9e47597ef17702152b8", checked := Tryz.checked }
namespace Rows
def none {H : Type} : Left H := { results := [], args := [] }

/- WHAT THE LISTED PACKAGE-LEVEL VARIABLES READ AS WHEN THE CALL BEGINS. Each datum BY PROGRAM (the guide's laid-datum.mjs) off the statement by which the dump's own 'gosem.cut.vars' lays the variable. In a bare row this is a premise. The card (YtehcaebnijlhgaaGreatDoorCards.lean) ties it to the program's text. -/
def laid_guerdon_date_monthLengths {H : Type} : DataW H := .agg [.lit (.int .i64 31), .lit (.int .i64 28), .lit (.int .i64 31), .lit (.int .i64 30), .lit (.int .i64 31), .lit (.int .i64 30), .lit (.int .i64 31), .lit (.int .i64 31), .lit (.int .i64 30), .lit (.int .i64 31), .lit (.int .i64 30), .lit (.int .i64 31)]

/-- 'guerdontop.TopCoverage': WHATEVER THE INPUT: true; the input reads as it did. -/
def topCoverageSpec : ChangeSpec := { name := "topCoverage", fn := fun _ => fun
  | [d1, d2, d3, d4] => { results := [.lit (.bool true)], args := [d1, d2, d3, d4] }
  | _ => none }
def topCoverageRow : OpenClaim := { program := "ytehcaebnijlhgaagreatdoor", sum := "7ec934299fb117dd6ade694da1d6ebe667a3aa59cc93f9e47597ef17702152b8", func := "guerdon/guerdontop.TopCoverage", spec := "topCoverage", inPlace := ["internal/bytealg.IndexByteString", "internal/bytealg.IndexString"], unfollowed := true, recurses := true, named := ["internal/bytealg.MaxLen", "math/bits.divideError", "math/bits.overflowError", "guerdon/date.monthLengths"], apart := false, laid := [("guerdon/date.monthLengths", laid_guerdon_date_monthLengths)] }
def TopCoverageSaid : Prop := topCoverageRow.holds Tryz.pinned (OpenSpec.ofChange topCoverageSpec)

/-- ITS FALSE NEIGHBOUR: 'it returns false'. Refute it at one input. -/
def topCoverageWrong : ChangeSpec := { name := "topCoverage", fn := fun _ => fun
  | [d1, d2, d3, d4] => { results := [.lit (.bool false)], args := [d1, d2, d3, d4] }
  | _ => none }
def TopCoverageWrongFalsely : Prop := topCoverageRow.holds Tryz.pinned (OpenSpec.ofChange topCoverageWrong)

/-- 'guerdontop.TopAmendments': WHATEVER THE INPUT: true; the input reads as it did. -/
def topAmendmentsSpec : ChangeSpec := { name := "topAmendments", fn := fun _ => fun
  | [d1, d2, d3, d4] => { results := [.lit (.bool true)], args := [d1, d2, d3, d4] }
  | _ => none }
def topAmendmentsRow : OpenClaim := { program := "ytehcaebnijlhgaagreatdoor", sum := "7ec934299fb117dd6ade694da1d6ebe667a3aa59cc93f9e47597ef17702152b8", func := "guerdon/guerdontop.TopAmendments", spec := "topAmendments", inPlace := ["internal/bytealg.IndexByteString", "internal/bytealg.IndexString"], unfollowed := true, recurses := true, named := ["internal/bytealg.MaxLen", "math/bits.divideError", "math/bits.overflowError", "guerdon/date.monthLengths"], apart := false, laid := [("guerdon/date.monthLengths", laid_guerdon_date_monthLengths)] }
def TopAmendmentsSaid : Prop := topAmendmentsRow.holds Tryz.pinned (OpenSpec.ofChange topAmendmentsSpec)

/-- ITS FALSE NEIGHBOUR: 'it returns false'. Refute it at one input. -/
def topAmendmentsWrong : ChangeSpec := { name := "topAmendments", fn := fun _ => fun
  | [d1, d2, d3, d4] => { results := [.lit (.bool false)], args := [d1, d2, d3, d4] }
  | _ => none }
def TopAmendmentsWrongFalsely : Prop := topAmendmentsRow.holds Tryz.pinned (OpenSpec.ofChange topAmendmentsWrong)

/- THE SECOND FORM. 'bulk': how many values and letters a reading holds, each counted each time it is reached (what is shared counts as often as it is met; a slice's spare places count too). A statement '..UptoSaid' is the law's where the arguments, and the package variables that the reading takes, are together of bulk at most 1048576: NARROWER than '..Said'. Prove '..Said' where nothing that the law and all that it calls make is longer than what came in: it says more and counts as full. Else prove '..UptoSaid'. A law counts once. -/
mutual
def uptoBulk {H : Type} : DataW H → Nat
  | .lit (.string bytes) => bytes.length + 1
  | .lit _ => 1
  | .nil => 1
  | .ptr d => uptoBulk d + 1
  | .slice elems spare => uptoBulkAll elems + uptoBulkAll spare + 1
  | .agg parts => uptoBulkAll parts + 1
  | .iface _ d => uptoBulk d + 1
  | .map entries => uptoBulkEntries entries + 1
  | .held _ => 1
def uptoBulkAll {H : Type} : List (DataW H) → Nat
  | [] => 0
  | d :: r => uptoBulk d + uptoBulkAll r
def uptoBulkEntries {H : Type} : List (Lit × DataW H) → Nat
  | [] => 0
  | x :: r => uptoBulkEntry x + uptoBulkEntries r
def uptoBulkEntry {H : Type} : Lit × DataW H → Nat
  | (.string bytes, d) => bytes.length + uptoBulk d + 1
  | (_, d) => uptoBulk d + 1
 end
def uptoSmall : (H : Type) → List (DataW H) → Bool := fun _ ds => decide (uptoBulkAll ds ≤ 1048576)
def OpenSpec.upto (s : _root_.Go.ChangeSpec) : _root_.Go.OpenSpec := { _root_.Go.OpenSpec.ofChange s with cond := some uptoSmall }

/-- 'guerdontop.TopCoverage', WHERE WHAT IT READS IS OF BULK AT MOST 1048576: true; the input reads as it did. -/
def topCoverageUptoRow : OpenClaim := { program := "ytehcaebnijlhgaagreatdoor", sum := "7ec934299fb117dd6ade694da1d6ebe667a3aa59cc93f9e47597ef17702152b8", func := "guerdon/guerdontop.TopCoverage", spec := "topCoverage", inPlace := ["internal/bytealg.IndexByteString", "internal/bytealg.IndexString"], unfollowed := true, recurses := true, named := ["internal/bytealg.MaxLen", "math/bits.divideError", "math/bits.overflowError", "guerdon/date.monthLengths"], apart := false, laid := [("guerdon/date.monthLengths", laid_guerdon_date_monthLengths)], narrowed := true }
def TopCoverageUptoSaid : Prop := topCoverageUptoRow.holds Tryz.pinned (OpenSpec.upto topCoverageSpec)

/-- 'guerdontop.TopAmendments', WHERE WHAT IT READS IS OF BULK AT MOST 1048576: true; the input reads as it did. -/
def topAmendmentsUptoRow : OpenClaim := { program := "ytehcaebnijlhgaagreatdoor", sum := "7ec934299fb117dd6ade694da1d6ebe667a3aa59cc93f9e47597ef17702152b8", func := "guerdon/guerdontop.TopAmendments", spec := "topAmendments", inPlace := ["internal/bytealg.IndexByteString", "internal/bytealg.IndexString"], unfollowed := true, recurses := true, named := ["internal/bytealg.MaxLen", "math/bits.divideError", "math/bits.overflowError", "guerdon/date.monthLengths"], apart := false, laid := [("guerdon/date.monthLengths", laid_guerdon_date_monthLengths)], narrowed := true }
def TopAmendmentsUptoSaid : Prop := topAmendmentsUptoRow.holds Tryz.pinned (OpenSpec.upto topAmendmentsSpec)

end Rows
end Go.Proofs.YtehcaebnijlhgaaGreatDoor
