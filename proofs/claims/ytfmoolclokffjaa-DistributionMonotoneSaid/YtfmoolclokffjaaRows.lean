/-
  No cell of these rows narrows 'for every input' (looked for: loops, veiled, ifaces, maps, wideKeys, modest, calm, conditions, laid).
  DERIVED. THE GIVEN ROWS OF THIS SEAT. 7 by the template 'for every input the law returns true; each argument reads behind the call as it read before'; 0 by the template 'total and deterministic' (their statements: YtfmoolclokffjaaTotals.lean).
  GIVEN WITH THE SEED: the statements are not yours to turn. If you find one false, say at which input.
  Laid BY PROGRAM, IN A SANDBOX (cutbox-rows.mjs): the forced cells as the released guide's own fill.sh prints them over the translation 30b2e009fd9804a3… (all of the seat's roots in one cut). By AI agents, Wed Nov 11 2026. No macro, syntax, notation, axiom, sorry.
-/
import Derived.Test.YtfmoolclokffjaaChecked
import GoSem.Claim
import GoSem.ClaimJoined
import GoSem.ClaimMapViews
import Derived.JoinedTies
import Derived.KernelRfl
namespace Go.Proofs.Ytfmoolclokffjaa
/- THE CELL 'sum', in the pinned program and in every row, IS THE sha256 OF THE DUMP (.gsa) THAT YtfmoolclokffjaaProg.lean LOADS. Nothing in Lean hashes anything: it is a label: what it is worth is what the hold of that sum in a sandbox is worth. -/
noncomputable def Try.pinned : Pinned := { name := "ytfmoolclokffjaa", sum := "30b2e009fd9804a318cd5122fcf01525f38b5bcb129494cf605dbe5782417366", checked := Try.checked }
namespace Rows
def none {H : Type} : Left H := { results := [], args := [] }

/-- 'guerdonlaw59.DistributionQuantile': WHATEVER THE INPUT: true; the input reads as it did. -/
def distributionQuantileSpec : ChangeSpec := { name := "distributionQuantile", fn := fun _ => fun
  | [d1, d2, d3] => { results := [.lit (.bool true)], args := [d1, d2, d3] }
  | _ => none }
def distributionQuantileRow : OpenClaim := { program := "ytfmoolclokffjaa", sum := "30b2e009fd9804a318cd5122fcf01525f38b5bcb129494cf605dbe5782417366", func := "guerdon/guerdonlaw59.DistributionQuantile", spec := "distributionQuantile", unfollowed := true, recurses := true, named := ["math/bits.divideError", "math/bits.overflowError"], apart := false }
def DistributionQuantileSaid : Prop := distributionQuantileRow.holds Try.pinned (OpenSpec.ofChange distributionQuantileSpec)

/-- ITS FALSE NEIGHBOUR: 'it returns false'. Refute it at one input. -/
def distributionQuantileWrong : ChangeSpec := { name := "distributionQuantile", fn := fun _ => fun
  | [d1, d2, d3] => { results := [.lit (.bool false)], args := [d1, d2, d3] }
  | _ => none }
def DistributionQuantileWrongFalsely : Prop := distributionQuantileRow.holds Try.pinned (OpenSpec.ofChange distributionQuantileWrong)

/-- 'guerdonlaw59.DistributionHistogram': WHATEVER THE INPUT: true; the input reads as it did. -/
def distributionHistogramSpec : ChangeSpec := { name := "distributionHistogram", fn := fun _ => fun
  | [d1, d2] => { results := [.lit (.bool true)], args := [d1, d2] }
  | _ => none }
def distributionHistogramRow : OpenClaim := { program := "ytfmoolclokffjaa", sum := "30b2e009fd9804a318cd5122fcf01525f38b5bcb129494cf605dbe5782417366", func := "guerdon/guerdonlaw59.DistributionHistogram", spec := "distributionHistogram", unfollowed := true, recurses := true, named := ["math/bits.divideError", "math/bits.overflowError"], apart := false }
def DistributionHistogramSaid : Prop := distributionHistogramRow.holds Try.pinned (OpenSpec.ofChange distributionHistogramSpec)

/-- ITS FALSE NEIGHBOUR: 'it returns false'. Refute it at one input. -/
def distributionHistogramWrong : ChangeSpec := { name := "distributionHistogram", fn := fun _ => fun
  | [d1, d2] => { results := [.lit (.bool false)], args := [d1, d2] }
  | _ => none }
def DistributionHistogramWrongFalsely : Prop := distributionHistogramRow.holds Try.pinned (OpenSpec.ofChange distributionHistogramWrong)

/-- 'guerdonlaw59.DistributionGroups': WHATEVER THE INPUT: true; the input reads as it did. -/
def distributionGroupsSpec : ChangeSpec := { name := "distributionGroups", fn := fun _ => fun
  | [d1, d2, d3] => { results := [.lit (.bool true)], args := [d1, d2, d3] }
  | _ => none }
def distributionGroupsRow : OpenClaim := { program := "ytfmoolclokffjaa", sum := "30b2e009fd9804a318cd5122fcf01525f38b5bcb129494cf605dbe5782417366", func := "guerdon/guerdonlaw59.DistributionGroups", spec := "distributionGroups", unfollowed := true, recurses := true, named := ["math/bits.divideError", "math/bits.overflowError"], apart := false }
def DistributionGroupsSaid : Prop := distributionGroupsRow.holds Try.pinned (OpenSpec.ofChange distributionGroupsSpec)

/-- ITS FALSE NEIGHBOUR: 'it returns false'. Refute it at one input. -/
def distributionGroupsWrong : ChangeSpec := { name := "distributionGroups", fn := fun _ => fun
  | [d1, d2, d3] => { results := [.lit (.bool false)], args := [d1, d2, d3] }
  | _ => none }
def DistributionGroupsWrongFalsely : Prop := distributionGroupsRow.holds Try.pinned (OpenSpec.ofChange distributionGroupsWrong)

/-- 'guerdonlaw59.DistributionShares': WHATEVER THE INPUT: true; the input reads as it did. -/
def distributionSharesSpec : ChangeSpec := { name := "distributionShares", fn := fun _ => fun
  | [d1, d2] => { results := [.lit (.bool true)], args := [d1, d2] }
  | _ => none }
def distributionSharesRow : OpenClaim := { program := "ytfmoolclokffjaa", sum := "30b2e009fd9804a318cd5122fcf01525f38b5bcb129494cf605dbe5782417366", func := "guerdon/guerdonlaw59.DistributionShares", spec := "distributionShares", unfollowed := true, recurses := true, named := ["math/bits.divideError", "math/bits.overflowError"], apart := false }
def DistributionSharesSaid : Prop := distributionSharesRow.holds Try.pinned (OpenSpec.ofChange distributionSharesSpec)

/-- ITS FALSE NEIGHBOUR: 'it returns false'. Refute it at one input. -/
def distributionSharesWrong : ChangeSpec := { name := "distributionShares", fn := fun _ => fun
  | [d1, d2] => { results := [.lit (.bool false)], args := [d1, d2] }
  | _ => none }
def DistributionSharesWrongFalsely : Prop := distributionSharesRow.holds Try.pinned (OpenSpec.ofChange distributionSharesWrong)

/-- 'guerdonlaw59.DistributionTotals': WHATEVER THE INPUT: true; the input reads as it did. -/
def distributionTotalsSpec : ChangeSpec := { name := "distributionTotals", fn := fun _ => fun
  | [d1, d2, d3, d4] => { results := [.lit (.bool true)], args := [d1, d2, d3, d4] }
  | _ => none }
def distributionTotalsRow : OpenClaim := { program := "ytfmoolclokffjaa", sum := "30b2e009fd9804a318cd5122fcf01525f38b5bcb129494cf605dbe5782417366", func := "guerdon/guerdonlaw59.DistributionTotals", spec := "distributionTotals", unfollowed := true, recurses := true, named := ["math/bits.divideError", "math/bits.overflowError"], apart := false }
def DistributionTotalsSaid : Prop := distributionTotalsRow.holds Try.pinned (OpenSpec.ofChange distributionTotalsSpec)

/-- ITS FALSE NEIGHBOUR: 'it returns false'. Refute it at one input. -/
def distributionTotalsWrong : ChangeSpec := { name := "distributionTotals", fn := fun _ => fun
  | [d1, d2, d3, d4] => { results := [.lit (.bool false)], args := [d1, d2, d3, d4] }
  | _ => none }
def DistributionTotalsWrongFalsely : Prop := distributionTotalsRow.holds Try.pinned (OpenSpec.ofChange distributionTotalsWrong)

/-- 'guerdonlaw59.DistributionOrder': WHATEVER THE INPUT: true; the input reads as it did. -/
def distributionOrderSpec : ChangeSpec := { name := "distributionOrder", fn := fun _ => fun
  | [d1, d2, d3, d4] => { results := [.lit (.bool true)], args := [d1, d2, d3, d4] }
  | _ => none }
def distributionOrderRow : OpenClaim := { program := "ytfmoolclokffjaa", sum := "30b2e009fd9804a318cd5122fcf01525f38b5bcb129494cf605dbe5782417366", func := "guerdon/guerdonlaw59.DistributionOrder", spec := "distributionOrder", unfollowed := true, recurses := true, named := ["math/bits.divideError", "math/bits.overflowError"], apart := false }
def DistributionOrderSaid : Prop := distributionOrderRow.holds Try.pinned (OpenSpec.ofChange distributionOrderSpec)

/-- ITS FALSE NEIGHBOUR: 'it returns false'. Refute it at one input. -/
def distributionOrderWrong : ChangeSpec := { name := "distributionOrder", fn := fun _ => fun
  | [d1, d2, d3, d4] => { results := [.lit (.bool false)], args := [d1, d2, d3, d4] }
  | _ => none }
def DistributionOrderWrongFalsely : Prop := distributionOrderRow.holds Try.pinned (OpenSpec.ofChange distributionOrderWrong)

/-- 'guerdonlaw59.DistributionMonotone': WHATEVER THE INPUT: true; the input reads as it did. -/
def distributionMonotoneSpec : ChangeSpec := { name := "distributionMonotone", fn := fun _ => fun
  | [d1, d2, d3] => { results := [.lit (.bool true)], args := [d1, d2, d3] }
  | _ => none }
def distributionMonotoneRow : OpenClaim := { program := "ytfmoolclokffjaa", sum := "30b2e009fd9804a318cd5122fcf01525f38b5bcb129494cf605dbe5782417366", func := "guerdon/guerdonlaw59.DistributionMonotone", spec := "distributionMonotone", unfollowed := true, recurses := true, named := ["math/bits.divideError", "math/bits.overflowError"], apart := false }
def DistributionMonotoneSaid : Prop := distributionMonotoneRow.holds Try.pinned (OpenSpec.ofChange distributionMonotoneSpec)

/-- ITS FALSE NEIGHBOUR: 'it returns false'. Refute it at one input. -/
def distributionMonotoneWrong : ChangeSpec := { name := "distributionMonotone", fn := fun _ => fun
  | [d1, d2, d3] => { results := [.lit (.bool false)], args := [d1, d2, d3] }
  | _ => none }
def DistributionMonotoneWrongFalsely : Prop := distributionMonotoneRow.holds Try.pinned (OpenSpec.ofChange distributionMonotoneWrong)

/- THE SECOND FORM. 'bulk': how many values and letters a reading holds, each counted each time it is reached (what is shared counts as often as it is met; a slice's spare places count too). A statement '..UptoSaid' is the law's where the arguments, and the package variables that the reading takes, are together of bulk at most 1048576: NARROWER than '..Said'. Prove '..Said' where nothing that the law and all that it calls make is longer than what came in: it says more and counts as full. Else prove '..UptoSaid'. A law counts once. -/
mutual
def uptoBulk {H : Type} : DataW H → Nat
  | .lit (.string bytes) => bytes.length + 1
  | .lit _ => 1
  | .nil => 1
  | .ptr d => uptoBulk d + 1
  | .slice elems spare => uptoBulkAll elems + uptoBulkAll spare + 1
  | .agg parts => uptoBulkAll parts + 1
  | .iface _ d => uptoBulk d + 1
  | .map entries => uptoBulkEntries entries + 1
  | .held _ => 1
def uptoBulkAll {H : Type} : List (DataW H) → Nat
  | [] => 0
  | d :: r => uptoBulk d + uptoBulkAll r
def uptoBulkEntries {H : Type} : List (Lit × DataW H) → Nat
  | [] => 0
  | x :: r => uptoBulkEntry x + uptoBulkEntries r
def uptoBulkEntry {H : Type} : Lit × DataW H → Nat
  | (.string bytes, d) => bytes.length + uptoBulk d + 1
  | (_, d) => uptoBulk d + 1
 end
def uptoSmall : (H : Type) → List (DataW H) → Bool := fun _ ds => decide (uptoBulkAll ds ≤ 1048576)
def OpenSpec.upto (s : _root_.Go.ChangeSpec) : _root_.Go.OpenSpec := { _root_.Go.OpenSpec.ofChange s with cond := some uptoSmall }

/-- 'guerdonlaw59.DistributionQuantile', WHERE WHAT IT READS IS OF BULK AT MOST 1048576: true; the input reads as it did. -/
def distributionQuantileUptoRow : OpenClaim := { program := "ytfmoolclokffjaa", sum := "30b2e009fd9804a318cd5122fcf01525f38b5bcb129494cf605dbe5782417366", func := "guerdon/guerdonlaw59.DistributionQuantile", spec := "distributionQuantile", unfollowed := true, recurses := true, named := ["math/bits.divideError", "math/bits.overflowError"], apart := false, narrowed := true }
def DistributionQuantileUptoSaid : Prop := distributionQuantileUptoRow.holds Try.pinned (OpenSpec.upto distributionQuantileSpec)

/-- 'guerdonlaw59.DistributionHistogram', WHERE WHAT IT READS IS OF BULK AT MOST 1048576: true; the input reads as it did. -/
def distributionHistogramUptoRow : OpenClaim := { program := "ytfmoolclokffjaa", sum := "30b2e009fd9804a318cd5122fcf01525f38b5bcb129494cf605dbe5782417366", func := "guerdon/guerdonlaw59.DistributionHistogram", spec := "distributionHistogram", unfollowed := true, recurses := true, named := ["math/bits.divideError", "math/bits.overflowError"], apart := false, narrowed := true }
def DistributionHistogramUptoSaid : Prop := distributionHistogramUptoRow.holds Try.pinned (OpenSpec.upto distributionHistogramSpec)

/-- 'guerdonlaw59.DistributionGroups', WHERE WHAT IT READS IS OF BULK AT MOST 1048576: true; the input reads as it did. -/
def distributionGroupsUptoRow : OpenClaim := { program := "ytfmoolclokffjaa", sum := "30b2e009fd9804a318cd5122fcf01525f38b5bcb129494cf605dbe5782417366", func := "guerdon/guerdonlaw59.DistributionGroups", spec := "distributionGroups", unfollowed := true, recurses := true, named := ["math/bits.divideError", "math/bits.overflowError"], apart := false, narrowed := true }
def DistributionGroupsUptoSaid : Prop := distributionGroupsUptoRow.holds Try.pinned (OpenSpec.upto distributionGroupsSpec)

/-- 'guerdonlaw59.DistributionShares', WHERE WHAT IT READS IS OF BULK AT MOST 1048576: true; the input reads as it did. -/
def distributionSharesUptoRow : OpenClaim := { program := "ytfmoolclokffjaa", sum := "30b2e009fd9804a318cd5122fcf01525f38b5bcb129494cf605dbe5782417366", func := "guerdon/guerdonlaw59.DistributionShares", spec := "distributionShares", unfollowed := true, recurses := true, named := ["math/bits.divideError", "math/bits.overflowError"], apart := false, narrowed := true }
def DistributionSharesUptoSaid : Prop := distributionSharesUptoRow.holds Try.pinned (OpenSpec.upto distributionSharesSpec)

/-- 'guerdonlaw59.DistributionTotals', WHERE WHAT IT READS IS OF BULK AT MOST 1048576: true; the input reads as it did. -/
def distributionTotalsUptoRow : OpenClaim := { program := "ytfmoolclokffjaa", sum := "30b2e009fd9804a318cd5122fcf01525f38b5bcb129494cf605dbe5782417366", func := "guerdon/guerdonlaw59.DistributionTotals", spec := "distributionTotals", unfollowed := true, recurses := true, named := ["math/bits.divideError", "math/bits.overflowError"], apart := false, narrowed := true }
def DistributionTotalsUptoSaid : Prop := distributionTotalsUptoRow.holds Try.pinned (OpenSpec.upto distributionTotalsSpec)

/-- 'guerdonlaw59.DistributionOrder', WHERE WHAT IT READS IS OF BULK AT MOST 1048576: true; the input reads as it did. -/
def distributionOrderUptoRow : OpenClaim := { program := "ytfmoolclokffjaa", sum := "30b2e009fd9804a318cd5122fcf01525f38b5bcb129494cf605dbe5782417366", func := "guerdon/guerdonlaw59.DistributionOrder", spec := "distributionOrder", unfollowed := true, recurses := true, named := ["math/bits.divideError", "math/bits.overflowError"], apart := false, narrowed := true }
def DistributionOrderUptoSaid : Prop := distributionOrderUptoRow.holds Try.pinned (OpenSpec.upto distributionOrderSpec)

/-- 'guerdonlaw59.DistributionMonotone', WHERE WHAT IT READS IS OF BULK AT MOST 1048576: true; the input reads as it did. -/
def distributionMonotoneUptoRow : OpenClaim := { program := "ytfmoolclokffjaa", sum := "30b2e009fd9804a318cd5122fcf01525f38b5bcb129494cf605dbe5782417366", func := "guerdon/guerdonlaw59.DistributionMonotone", spec := "distributionMonotone", unfollowed := true, recurses := true, named := ["math/bits.divideError", "math/bits.overflowError"], apart := false, narrowed := true }
def DistributionMonotoneUptoSaid : Prop := distributionMonotoneUptoRow.holds Try.pinned (OpenSpec.upto distributionMonotoneSpec)

end Rows
end Go.Proofs.Ytfmoolclokffjaa
