/-
  No cell of these rows narrows 'for every input' (looked for: loops, veiled, ifaces, maps, wideKeys, modest, calm, conditions, laid).
  DERIVED. THE GIVEN ROWS OF THIS SEAT. 7 by the template 'for every input the law returns true; each argument reads behind the call as it read before'; 0 by the template 'total and deterministic' (their statements: YtdfdonfhaadnmaaTotals.lean).
  GIVEN WITH THE SEED: the statements are not yours to turn. If you find one false, say at which input.
  Laid BY PROGRAM, IN A SANDBOX (cutbox-rows.mjs): the forced cells as the released guide's own fill.sh prints them over the translation f5542cabb45187a9… (all of the seat's roots in one cut). By AI agents, Wed Nov 11 2026. No macro, syntax, notation, axiom, sorry.
-/
import Derived.Test.YtdfdonfhaadnmaaChecked
import GoSem.Claim
import GoSem.ClaimJoined
import GoSem.ClaimMapViews
import Derived.JoinedTies
import Derived.KernelRfl
namespace Go.Proofs.Ytdfdonfhaadnmaa
/- THE CELL 'sum', in the pinned program and in every row, IS THE sha256 OF THE DUMP (.gsa) THAT YtdfdonfhaadnmaaProg.lean LOADS. Nothing in Lean hashes anything: it is a label: what it is worth is what the hold of that sum in a sandbox is worth. -/
noncomputable def Try.pinned : Pinned := { name := "ytdfdonfhaadnmaa", sum := "f5542cabb45187a9e8998efd02714431eaeb8d6578653746602796a7d2793b10", checked := Try.checked }
namespace Rows
def none {H : Type} : Left H := { results := [], args := [] }

/-- 'guerdonlaw02.MoneyDivRound': WHATEVER THE INPUT: true; the input reads as it did. -/
def moneyDivRoundSpec : ChangeSpec := { name := "moneyDivRound", fn := fun _ => fun
  | [d1, d2, d3] => { results := [.lit (.bool true)], args := [d1, d2, d3] }
  | _ => none }
def moneyDivRoundRow : OpenClaim := { program := "ytdfdonfhaadnmaa", sum := "f5542cabb45187a9e8998efd02714431eaeb8d6578653746602796a7d2793b10", func := "guerdon/guerdonlaw02.MoneyDivRound", spec := "moneyDivRound", unfollowed := true, recurses := true, named := ["math/bits.divideError", "math/bits.overflowError"], apart := false }
def MoneyDivRoundSaid : Prop := moneyDivRoundRow.holds Try.pinned (OpenSpec.ofChange moneyDivRoundSpec)

/-- ITS FALSE NEIGHBOUR: 'it returns false'. Refute it at one input. -/
def moneyDivRoundWrong : ChangeSpec := { name := "moneyDivRound", fn := fun _ => fun
  | [d1, d2, d3] => { results := [.lit (.bool false)], args := [d1, d2, d3] }
  | _ => none }
def MoneyDivRoundWrongFalsely : Prop := moneyDivRoundRow.holds Try.pinned (OpenSpec.ofChange moneyDivRoundWrong)

/-- 'guerdonlaw02.MoneyMulDiv': WHATEVER THE INPUT: true; the input reads as it did. -/
def moneyMulDivSpec : ChangeSpec := { name := "moneyMulDiv", fn := fun _ => fun
  | [d1, d2, d3, d4] => { results := [.lit (.bool true)], args := [d1, d2, d3, d4] }
  | _ => none }
def moneyMulDivRow : OpenClaim := { program := "ytdfdonfhaadnmaa", sum := "f5542cabb45187a9e8998efd02714431eaeb8d6578653746602796a7d2793b10", func := "guerdon/guerdonlaw02.MoneyMulDiv", spec := "moneyMulDiv", unfollowed := true, recurses := true, named := ["math/bits.divideError", "math/bits.overflowError"], apart := false }
def MoneyMulDivSaid : Prop := moneyMulDivRow.holds Try.pinned (OpenSpec.ofChange moneyMulDivSpec)

/-- ITS FALSE NEIGHBOUR: 'it returns false'. Refute it at one input. -/
def moneyMulDivWrong : ChangeSpec := { name := "moneyMulDiv", fn := fun _ => fun
  | [d1, d2, d3, d4] => { results := [.lit (.bool false)], args := [d1, d2, d3, d4] }
  | _ => none }
def MoneyMulDivWrongFalsely : Prop := moneyMulDivRow.holds Try.pinned (OpenSpec.ofChange moneyMulDivWrong)

/-- 'guerdonlaw02.MoneyRoundTo': WHATEVER THE INPUT: true; the input reads as it did. -/
def moneyRoundToSpec : ChangeSpec := { name := "moneyRoundTo", fn := fun _ => fun
  | [d1, d2, d3] => { results := [.lit (.bool true)], args := [d1, d2, d3] }
  | _ => none }
def moneyRoundToRow : OpenClaim := { program := "ytdfdonfhaadnmaa", sum := "f5542cabb45187a9e8998efd02714431eaeb8d6578653746602796a7d2793b10", func := "guerdon/guerdonlaw02.MoneyRoundTo", spec := "moneyRoundTo", unfollowed := true, recurses := true, named := ["math/bits.divideError", "math/bits.overflowError"], apart := false }
def MoneyRoundToSaid : Prop := moneyRoundToRow.holds Try.pinned (OpenSpec.ofChange moneyRoundToSpec)

/-- ITS FALSE NEIGHBOUR: 'it returns false'. Refute it at one input. -/
def moneyRoundToWrong : ChangeSpec := { name := "moneyRoundTo", fn := fun _ => fun
  | [d1, d2, d3] => { results := [.lit (.bool false)], args := [d1, d2, d3] }
  | _ => none }
def MoneyRoundToWrongFalsely : Prop := moneyRoundToRow.holds Try.pinned (OpenSpec.ofChange moneyRoundToWrong)

/-- 'guerdonlaw02.MoneyAllocate': WHATEVER THE INPUT: true; the input reads as it did. -/
def moneyAllocateSpec : ChangeSpec := { name := "moneyAllocate", fn := fun _ => fun
  | [d1, d2] => { results := [.lit (.bool true)], args := [d1, d2] }
  | _ => none }
def moneyAllocateRow : OpenClaim := { program := "ytdfdonfhaadnmaa", sum := "f5542cabb45187a9e8998efd02714431eaeb8d6578653746602796a7d2793b10", func := "guerdon/guerdonlaw02.MoneyAllocate", spec := "moneyAllocate", unfollowed := true, recurses := true, named := ["math/bits.divideError", "math/bits.overflowError"], apart := false }
def MoneyAllocateSaid : Prop := moneyAllocateRow.holds Try.pinned (OpenSpec.ofChange moneyAllocateSpec)

/-- ITS FALSE NEIGHBOUR: 'it returns false'. Refute it at one input. -/
def moneyAllocateWrong : ChangeSpec := { name := "moneyAllocate", fn := fun _ => fun
  | [d1, d2] => { results := [.lit (.bool false)], args := [d1, d2] }
  | _ => none }
def MoneyAllocateWrongFalsely : Prop := moneyAllocateRow.holds Try.pinned (OpenSpec.ofChange moneyAllocateWrong)

/-- 'guerdonlaw02.MoneyAllocateSum': WHATEVER THE INPUT: true; the input reads as it did. -/
def moneyAllocateSumSpec : ChangeSpec := { name := "moneyAllocateSum", fn := fun _ => fun
  | [d1, d2] => { results := [.lit (.bool true)], args := [d1, d2] }
  | _ => none }
def moneyAllocateSumRow : OpenClaim := { program := "ytdfdonfhaadnmaa", sum := "f5542cabb45187a9e8998efd02714431eaeb8d6578653746602796a7d2793b10", func := "guerdon/guerdonlaw02.MoneyAllocateSum", spec := "moneyAllocateSum", unfollowed := true, recurses := true, named := ["math/bits.divideError", "math/bits.overflowError"], apart := false }
def MoneyAllocateSumSaid : Prop := moneyAllocateSumRow.holds Try.pinned (OpenSpec.ofChange moneyAllocateSumSpec)

/-- ITS FALSE NEIGHBOUR: 'it returns false'. Refute it at one input. -/
def moneyAllocateSumWrong : ChangeSpec := { name := "moneyAllocateSum", fn := fun _ => fun
  | [d1, d2] => { results := [.lit (.bool false)], args := [d1, d2] }
  | _ => none }
def MoneyAllocateSumWrongFalsely : Prop := moneyAllocateSumRow.holds Try.pinned (OpenSpec.ofChange moneyAllocateSumWrong)

/-- 'guerdonlaw02.MoneySum': WHATEVER THE INPUT: true; the input reads as it did. -/
def moneySumSpec : ChangeSpec := { name := "moneySum", fn := fun _ => fun
  | [d1, d2] => { results := [.lit (.bool true)], args := [d1, d2] }
  | _ => none }
def moneySumRow : OpenClaim := { program := "ytdfdonfhaadnmaa", sum := "f5542cabb45187a9e8998efd02714431eaeb8d6578653746602796a7d2793b10", func := "guerdon/guerdonlaw02.MoneySum", spec := "moneySum", unfollowed := true, recurses := true, named := ["math/bits.divideError", "math/bits.overflowError"], apart := false }
def MoneySumSaid : Prop := moneySumRow.holds Try.pinned (OpenSpec.ofChange moneySumSpec)

/-- ITS FALSE NEIGHBOUR: 'it returns false'. Refute it at one input. -/
def moneySumWrong : ChangeSpec := { name := "moneySum", fn := fun _ => fun
  | [d1, d2] => { results := [.lit (.bool false)], args := [d1, d2] }
  | _ => none }
def MoneySumWrongFalsely : Prop := moneySumRow.holds Try.pinned (OpenSpec.ofChange moneySumWrong)

/-- 'guerdonlaw02.MoneyRoundingOrder': WHATEVER THE INPUT: true; the input reads as it did. -/
def moneyRoundingOrderSpec : ChangeSpec := { name := "moneyRoundingOrder", fn := fun _ => fun
  | [d1, d2] => { results := [.lit (.bool true)], args := [d1, d2] }
  | _ => none }
def moneyRoundingOrderRow : OpenClaim := { program := "ytdfdonfhaadnmaa", sum := "f5542cabb45187a9e8998efd02714431eaeb8d6578653746602796a7d2793b10", func := "guerdon/guerdonlaw02.MoneyRoundingOrder", spec := "moneyRoundingOrder", unfollowed := true, recurses := true, named := ["math/bits.divideError", "math/bits.overflowError"], apart := false }
def MoneyRoundingOrderSaid : Prop := moneyRoundingOrderRow.holds Try.pinned (OpenSpec.ofChange moneyRoundingOrderSpec)

/-- ITS FALSE NEIGHBOUR: 'it returns false'. Refute it at one input. -/
def moneyRoundingOrderWrong : ChangeSpec := { name := "moneyRoundingOrder", fn := fun _ => fun
  | [d1, d2] => { results := [.lit (.bool false)], args := [d1, d2] }
  | _ => none }
def MoneyRoundingOrderWrongFalsely : Prop := moneyRoundingOrderRow.holds Try.pinned (OpenSpec.ofChange moneyRoundingOrderWrong)

/- THE SECOND FORM. 'bulk': how many values and letters a reading holds, each counted each time it is reached (what is shared counts as often as it is met; a slice's spare places count too). A statement '..UptoSaid' is the law's where the arguments, and the package variables that the reading takes, are together of bulk at most 1048576: NARROWER than '..Said'. Prove '..Said' where nothing that the law and all that it calls make is longer than what came in: it says more and counts as full. Else prove '..UptoSaid'. A law counts once. -/
mutual
def uptoBulk {H : Type} : DataW H → Nat
  | .lit (.string bytes) => bytes.length + 1
  | .lit _ => 1
  | .nil => 1
  | .ptr d => uptoBulk d + 1
  | .slice elems spare => uptoBulkAll elems + uptoBulkAll spare + 1
  | .agg parts => uptoBulkAll parts + 1
  | .iface _ d => uptoBulk d + 1
  | .map entries => uptoBulkEntries entries + 1
  | .held _ => 1
def uptoBulkAll {H : Type} : List (DataW H) → Nat
  | [] => 0
  | d :: r => uptoBulk d + uptoBulkAll r
def uptoBulkEntries {H : Type} : List (Lit × DataW H) → Nat
  | [] => 0
  | x :: r => uptoBulkEntry x + uptoBulkEntries r
def uptoBulkEntry {H : Type} : Lit × DataW H → Nat
  | (.string bytes, d) => bytes.length + uptoBulk d + 1
  | (_, d) => uptoBulk d + 1
 end
def uptoSmall : (H : Type) → List (DataW H) → Bool := fun _ ds => decide (uptoBulkAll ds ≤ 1048576)
def OpenSpec.upto (s : _root_.Go.ChangeSpec) : _root_.Go.OpenSpec := { _root_.Go.OpenSpec.ofChange s with cond := some uptoSmall }

/-- 'guerdonlaw02.MoneyDivRound', WHERE WHAT IT READS IS OF BULK AT MOST 1048576: true; the input reads as it did. -/
def moneyDivRoundUptoRow : OpenClaim := { program := "ytdfdonfhaadnmaa", sum := "f5542cabb45187a9e8998efd02714431eaeb8d6578653746602796a7d2793b10", func := "guerdon/guerdonlaw02.MoneyDivRound", spec := "moneyDivRound", unfollowed := true, recurses := true, named := ["math/bits.divideError", "math/bits.overflowError"], apart := false, narrowed := true }
def MoneyDivRoundUptoSaid : Prop := moneyDivRoundUptoRow.holds Try.pinned (OpenSpec.upto moneyDivRoundSpec)

/-- 'guerdonlaw02.MoneyMulDiv', WHERE WHAT IT READS IS OF BULK AT MOST 1048576: true; the input reads as it did. -/
def moneyMulDivUptoRow : OpenClaim := { program := "ytdfdonfhaadnmaa", sum := "f5542cabb45187a9e8998efd02714431eaeb8d6578653746602796a7d2793b10", func := "guerdon/guerdonlaw02.MoneyMulDiv", spec := "moneyMulDiv", unfollowed := true, recurses := true, named := ["math/bits.divideError", "math/bits.overflowError"], apart := false, narrowed := true }
def MoneyMulDivUptoSaid : Prop := moneyMulDivUptoRow.holds Try.pinned (OpenSpec.upto moneyMulDivSpec)

/-- 'guerdonlaw02.MoneyRoundTo', WHERE WHAT IT READS IS OF BULK AT MOST 1048576: true; the input reads as it did. -/
def moneyRoundToUptoRow : OpenClaim := { program := "ytdfdonfhaadnmaa", sum := "f5542cabb45187a9e8998efd02714431eaeb8d6578653746602796a7d2793b10", func := "guerdon/guerdonlaw02.MoneyRoundTo", spec := "moneyRoundTo", unfollowed := true, recurses := true, named := ["math/bits.divideError", "math/bits.overflowError"], apart := false, narrowed := true }
def MoneyRoundToUptoSaid : Prop := moneyRoundToUptoRow.holds Try.pinned (OpenSpec.upto moneyRoundToSpec)

/-- 'guerdonlaw02.MoneyAllocate', WHERE WHAT IT READS IS OF BULK AT MOST 1048576: true; the input reads as it did. -/
def moneyAllocateUptoRow : OpenClaim := { program := "ytdfdonfhaadnmaa", sum := "f5542cabb45187a9e8998efd02714431eaeb8d6578653746602796a7d2793b10", func := "guerdon/guerdonlaw02.MoneyAllocate", spec := "moneyAllocate", unfollowed := true, recurses := true, named := ["math/bits.divideError", "math/bits.overflowError"], apart := false, narrowed := true }
def MoneyAllocateUptoSaid : Prop := moneyAllocateUptoRow.holds Try.pinned (OpenSpec.upto moneyAllocateSpec)

/-- 'guerdonlaw02.MoneyAllocateSum', WHERE WHAT IT READS IS OF BULK AT MOST 1048576: true; the input reads as it did. -/
def moneyAllocateSumUptoRow : OpenClaim := { program := "ytdfdonfhaadnmaa", sum := "f5542cabb45187a9e8998efd02714431eaeb8d6578653746602796a7d2793b10", func := "guerdon/guerdonlaw02.MoneyAllocateSum", spec := "moneyAllocateSum", unfollowed := true, recurses := true, named := ["math/bits.divideError", "math/bits.overflowError"], apart := false, narrowed := true }
def MoneyAllocateSumUptoSaid : Prop := moneyAllocateSumUptoRow.holds Try.pinned (OpenSpec.upto moneyAllocateSumSpec)

/-- 'guerdonlaw02.MoneySum', WHERE WHAT IT READS IS OF BULK AT MOST 1048576: true; the input reads as it did. -/
def moneySumUptoRow : OpenClaim := { program := "ytdfdonfhaadnmaa", sum := "f5542cabb45187a9e8998efd02714431eaeb8d6578653746602796a7d2793b10", func := "guerdon/guerdonlaw02.MoneySum", spec := "moneySum", unfollowed := true, recurses := true, named := ["math/bits.divideError", "math/bits.overflowError"], apart := false, narrowed := true }
def MoneySumUptoSaid : Prop := moneySumUptoRow.holds Try.pinned (OpenSpec.upto moneySumSpec)

/-- 'guerdonlaw02.MoneyRoundingOrder', WHERE WHAT IT READS IS OF BULK AT MOST 1048576: true; the input reads as it did. -/
def moneyRoundingOrderUptoRow : OpenClaim := { program := "ytdfdonfhaadnmaa", sum := "f5542cabb45187a9e8998efd02714431eaeb8d6578653746602796a7d2793b10", func := "guerdon/guerdonlaw02.MoneyRoundingOrder", spec := "moneyRoundingOrder", unfollowed := true, recurses := true, named := ["math/bits.divideError", "math/bits.overflowError"], apart := false, narrowed := true }
def MoneyRoundingOrderUptoSaid : Prop := moneyRoundingOrderUptoRow.holds Try.pinned (OpenSpec.upto moneyRoundingOrderSpec)

end Rows
end Go.Proofs.Ytdfdonfhaadnmaa
