/-
  No cell of these rows narrows 'for every input' (looked for: loops, veiled, ifaces, maps, wideKeys, modest, calm, conditions, laid).
  DERIVED. THE GIVEN ROWS OF THIS SEAT. 5 by the template 'for every input the law returns true; each argument reads behind the call as it read before'; 0 by the template 'total and deterministic' (their statements: YtfamnoalgjkjhaaTotals.lean).
  GIVEN WITH THE SEED: the statements are not yours to turn. If you find one false, say at which input.
  Laid BY PROGRAM, IN A SANDBOX (cutbox-rows.mjs): the forced cells as the released guide's own fill.sh prints them over the translation b1e41d8b015369c2… (all of the seat's roots in one cut). By AI agents, Wed Nov 11 2026. No macro, syntax, notation, axiom, sorry.
-/
import Derived.Test.YtfamnoalgjkjhaaChecked
import GoSem.Claim
import GoSem.ClaimJoined
import GoSem.ClaimMapViews
import Derived.JoinedTies
import Derived.KernelRfl
namespace Go.Proofs.Ytfamnoalgjkjhaa
/- THE CELL 'sum', in the pinned program and in every row, IS THE sha256 OF THE DUMP (.gsa) THAT YtfamnoalgjkjhaaProg.lean LOADS. Nothing in Lean hashes anything: it is a label: what it is worth is what the hold of that sum in a sandbox is worth. -/
noncomputable def Try.pinned : Pinned := { name := "ytfamnoalgjkjhaa", sum := "b1e41d8b015369c2e33b019092ad75eb19a0145125985db0d91e368c073e1c43", checked := Try.checked }
namespace Rows
def none {H : Type} : Left H := { results := [], args := [] }

/-- 'guerdonlaw34.FactsValidate': WHATEVER THE INPUT: true; the input reads as it did. -/
def factsValidateSpec : ChangeSpec := { name := "factsValidate", fn := fun _ => fun
  | [d] => { results := [.lit (.bool true)], args := [d] }
  | _ => none }
def factsValidateRow : OpenClaim := { program := "ytfamnoalgjkjhaa", sum := "b1e41d8b015369c2e33b019092ad75eb19a0145125985db0d91e368c073e1c43", func := "guerdon/guerdonlaw34.FactsValidate", spec := "factsValidate", unfollowed := true, recurses := true, apart := false }
def FactsValidateSaid : Prop := factsValidateRow.holds Try.pinned (OpenSpec.ofChange factsValidateSpec)

/-- ITS FALSE NEIGHBOUR: 'it returns false'. Refute it at one input. -/
def factsValidateWrong : ChangeSpec := { name := "factsValidate", fn := fun _ => fun
  | [d] => { results := [.lit (.bool false)], args := [d] }
  | _ => none }
def FactsValidateWrongFalsely : Prop := factsValidateRow.holds Try.pinned (OpenSpec.ofChange factsValidateWrong)

/-- 'guerdonlaw34.FactsAsOf': WHATEVER THE INPUT: true; the input reads as it did. -/
def factsAsOfSpec : ChangeSpec := { name := "factsAsOf", fn := fun _ => fun
  | [d1, d2, d3, d4] => { results := [.lit (.bool true)], args := [d1, d2, d3, d4] }
  | _ => none }
def factsAsOfRow : OpenClaim := { program := "ytfamnoalgjkjhaa", sum := "b1e41d8b015369c2e33b019092ad75eb19a0145125985db0d91e368c073e1c43", func := "guerdon/guerdonlaw34.FactsAsOf", spec := "factsAsOf", unfollowed := true, recurses := true, apart := false }
def FactsAsOfSaid : Prop := factsAsOfRow.holds Try.pinned (OpenSpec.ofChange factsAsOfSpec)

/-- ITS FALSE NEIGHBOUR: 'it returns false'. Refute it at one input. -/
def factsAsOfWrong : ChangeSpec := { name := "factsAsOf", fn := fun _ => fun
  | [d1, d2, d3, d4] => { results := [.lit (.bool false)], args := [d1, d2, d3, d4] }
  | _ => none }
def FactsAsOfWrongFalsely : Prop := factsAsOfRow.holds Try.pinned (OpenSpec.ofChange factsAsOfWrong)

/-- 'guerdonlaw34.FactsTimeline': WHATEVER THE INPUT: true; the input reads as it did. -/
def factsTimelineSpec : ChangeSpec := { name := "factsTimeline", fn := fun _ => fun
  | [d1, d2, d3] => { results := [.lit (.bool true)], args := [d1, d2, d3] }
  | _ => none }
def factsTimelineRow : OpenClaim := { program := "ytfamnoalgjkjhaa", sum := "b1e41d8b015369c2e33b019092ad75eb19a0145125985db0d91e368c073e1c43", func := "guerdon/guerdonlaw34.FactsTimeline", spec := "factsTimeline", unfollowed := true, recurses := true, apart := false }
def FactsTimelineSaid : Prop := factsTimelineRow.holds Try.pinned (OpenSpec.ofChange factsTimelineSpec)

/-- ITS FALSE NEIGHBOUR: 'it returns false'. Refute it at one input. -/
def factsTimelineWrong : ChangeSpec := { name := "factsTimeline", fn := fun _ => fun
  | [d1, d2, d3] => { results := [.lit (.bool false)], args := [d1, d2, d3] }
  | _ => none }
def FactsTimelineWrongFalsely : Prop := factsTimelineRow.holds Try.pinned (OpenSpec.ofChange factsTimelineWrong)

/-- 'guerdonlaw34.FactsOrderFree': WHATEVER THE INPUT: true; the input reads as it did. -/
def factsOrderFreeSpec : ChangeSpec := { name := "factsOrderFree", fn := fun _ => fun
  | [d1, d2, d3, d4] => { results := [.lit (.bool true)], args := [d1, d2, d3, d4] }
  | _ => none }
def factsOrderFreeRow : OpenClaim := { program := "ytfamnoalgjkjhaa", sum := "b1e41d8b015369c2e33b019092ad75eb19a0145125985db0d91e368c073e1c43", func := "guerdon/guerdonlaw34.FactsOrderFree", spec := "factsOrderFree", unfollowed := true, recurses := true, apart := false }
def FactsOrderFreeSaid : Prop := factsOrderFreeRow.holds Try.pinned (OpenSpec.ofChange factsOrderFreeSpec)

/-- ITS FALSE NEIGHBOUR: 'it returns false'. Refute it at one input. -/
def factsOrderFreeWrong : ChangeSpec := { name := "factsOrderFree", fn := fun _ => fun
  | [d1, d2, d3, d4] => { results := [.lit (.bool false)], args := [d1, d2, d3, d4] }
  | _ => none }
def FactsOrderFreeWrongFalsely : Prop := factsOrderFreeRow.holds Try.pinned (OpenSpec.ofChange factsOrderFreeWrong)

/-- 'guerdonlaw34.FactsConstant': WHATEVER THE INPUT: true; the input reads as it did. -/
def factsConstantSpec : ChangeSpec := { name := "factsConstant", fn := fun _ => fun
  | [d1, d2, d3, d4] => { results := [.lit (.bool true)], args := [d1, d2, d3, d4] }
  | _ => none }
def factsConstantRow : OpenClaim := { program := "ytfamnoalgjkjhaa", sum := "b1e41d8b015369c2e33b019092ad75eb19a0145125985db0d91e368c073e1c43", func := "guerdon/guerdonlaw34.FactsConstant", spec := "factsConstant", unfollowed := true, recurses := true, apart := false }
def FactsConstantSaid : Prop := factsConstantRow.holds Try.pinned (OpenSpec.ofChange factsConstantSpec)

/-- ITS FALSE NEIGHBOUR: 'it returns false'. Refute it at one input. -/
def factsConstantWrong : ChangeSpec := { name := "factsConstant", fn := fun _ => fun
  | [d1, d2, d3, d4] => { results := [.lit (.bool false)], args := [d1, d2, d3, d4] }
  | _ => none }
def FactsConstantWrongFalsely : Prop := factsConstantRow.holds Try.pinned (OpenSpec.ofChange factsConstantWrong)

/- THE SECOND FORM. 'bulk': how many values and letters a reading holds, each counted each time it is reached (what is shared counts as often as it is met; a slice's spare places count too). A statement '..UptoSaid' is the law's where the arguments, and the package variables that the reading takes, are together of bulk at most 1048576: NARROWER than '..Said'. Prove '..Said' where nothing that the law and all that it calls make is longer than what came in: it says more and counts as full. Else prove '..UptoSaid'. A law counts once. -/
mutual
def uptoBulk {H : Type} : DataW H → Nat
  | .lit (.string bytes) => bytes.length + 1
  | .lit _ => 1
  | .nil => 1
  | .ptr d => uptoBulk d + 1
  | .slice elems spare => uptoBulkAll elems + uptoBulkAll spare + 1
  | .agg parts => uptoBulkAll parts + 1
  | .iface _ d => uptoBulk d + 1
  | .map entries => uptoBulkEntries entries + 1
  | .held _ => 1
def uptoBulkAll {H : Type} : List (DataW H) → Nat
  | [] => 0
  | d :: r => uptoBulk d + uptoBulkAll r
def uptoBulkEntries {H : Type} : List (Lit × DataW H) → Nat
  | [] => 0
  | x :: r => uptoBulkEntry x + uptoBulkEntries r
def uptoBulkEntry {H : Type} : Lit × DataW H → Nat
  | (.string bytes, d) => bytes.length + uptoBulk d + 1
  | (_, d) => uptoBulk d + 1
 end
def uptoSmall : (H : Type) → List (DataW H) → Bool := fun _ ds => decide (uptoBulkAll ds ≤ 1048576)
def OpenSpec.upto (s : _root_.Go.ChangeSpec) : _root_.Go.OpenSpec := { _root_.Go.OpenSpec.ofChange s with cond := some uptoSmall }

/-- 'guerdonlaw34.FactsValidate', WHERE WHAT IT READS IS OF BULK AT MOST 1048576: true; the input reads as it did. -/
def factsValidateUptoRow : OpenClaim := { program := "ytfamnoalgjkjhaa", sum := "b1e41d8b015369c2e33b019092ad75eb19a0145125985db0d91e368c073e1c43", func := "guerdon/guerdonlaw34.FactsValidate", spec := "factsValidate", unfollowed := true, recurses := true, apart := false, narrowed := true }
def FactsValidateUptoSaid : Prop := factsValidateUptoRow.holds Try.pinned (OpenSpec.upto factsValidateSpec)

/-- 'guerdonlaw34.FactsAsOf', WHERE WHAT IT READS IS OF BULK AT MOST 1048576: true; the input reads as it did. -/
def factsAsOfUptoRow : OpenClaim := { program := "ytfamnoalgjkjhaa", sum := "b1e41d8b015369c2e33b019092ad75eb19a0145125985db0d91e368c073e1c43", func := "guerdon/guerdonlaw34.FactsAsOf", spec := "factsAsOf", unfollowed := true, recurses := true, apart := false, narrowed := true }
def FactsAsOfUptoSaid : Prop := factsAsOfUptoRow.holds Try.pinned (OpenSpec.upto factsAsOfSpec)

/-- 'guerdonlaw34.FactsTimeline', WHERE WHAT IT READS IS OF BULK AT MOST 1048576: true; the input reads as it did. -/
def factsTimelineUptoRow : OpenClaim := { program := "ytfamnoalgjkjhaa", sum := "b1e41d8b015369c2e33b019092ad75eb19a0145125985db0d91e368c073e1c43", func := "guerdon/guerdonlaw34.FactsTimeline", spec := "factsTimeline", unfollowed := true, recurses := true, apart := false, narrowed := true }
def FactsTimelineUptoSaid : Prop := factsTimelineUptoRow.holds Try.pinned (OpenSpec.upto factsTimelineSpec)

/-- 'guerdonlaw34.FactsOrderFree', WHERE WHAT IT READS IS OF BULK AT MOST 1048576: true; the input reads as it did. -/
def factsOrderFreeUptoRow : OpenClaim := { program := "ytfamnoalgjkjhaa", sum := "b1e41d8b015369c2e33b019092ad75eb19a0145125985db0d91e368c073e1c43", func := "guerdon/guerdonlaw34.FactsOrderFree", spec := "factsOrderFree", unfollowed := true, recurses := true, apart := false, narrowed := true }
def FactsOrderFreeUptoSaid : Prop := factsOrderFreeUptoRow.holds Try.pinned (OpenSpec.upto factsOrderFreeSpec)

/-- 'guerdonlaw34.FactsConstant', WHERE WHAT IT READS IS OF BULK AT MOST 1048576: true; the input reads as it did. -/
def factsConstantUptoRow : OpenClaim := { program := "ytfamnoalgjkjhaa", sum := "b1e41d8b015369c2e33b019092ad75eb19a0145125985db0d91e368c073e1c43", func := "guerdon/guerdonlaw34.FactsConstant", spec := "factsConstant", unfollowed := true, recurses := true, apart := false, narrowed := true }
def FactsConstantUptoSaid : Prop := factsConstantUptoRow.holds Try.pinned (OpenSpec.upto factsConstantSpec)

end Rows
end Go.Proofs.Ytfamnoalgjkjhaa
