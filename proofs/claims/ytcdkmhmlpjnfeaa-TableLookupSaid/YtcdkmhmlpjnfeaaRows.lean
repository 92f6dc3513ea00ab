/-
  No cell of these rows narrows 'for every input' (looked for: loops, veiled, ifaces, maps, wideKeys, modest, calm, conditions, laid).
  DERIVED. THE GIVEN ROWS OF THIS SEAT. 7 by the template 'for every input the law returns true; each argument reads behind the call as it read before'; 0 by the template 'total and deterministic' (their statements: YtcdkmhmlpjnfeaaTotals.lean).
  GIVEN WITH THE SEED: the statements are not yours to turn. If you find one false, say at which input.
  Laid BY PROGRAM, IN A SANDBOX (cutbox-rows.mjs): the forced cells as the released guide's own fill.sh prints them over the translation 9e4e8b4bd553387e… (all of the seat's roots in one cut). By AI agents, Wed Nov 11 2026. No macro, syntax, notation, axiom, sorry.
-/
import Derived.Test.YtcdkmhmlpjnfeaaChecked
import GoSem.Claim
import GoSem.ClaimJoined
import GoSem.ClaimMapViews
import Derived.JoinedTies
import Derived.KernelRfl
namespace Go.Proofs.Ytcdkmhmlpjnfeaa
/- THE CELL 'sum', in the pinned program and in every row, IS THE sha256 OF THE DUMP (.gsa) THAT YtcdkmhmlpjnfeaaProg.lean LOADS. Nothing in Lean hashes anything: it is a label: what it is worth is what the hold of that sum in a sandbox is worth. -/
noncomputable def Try.pinned : Pinned := { name := "ytcdkmhmlpjnfeaa", sum := "9e4e8b4bd553387e7222a2a1b066e7e84131169b3ca4ae6f33c45e1f6151615e", checked := Try.checked }
namespace Rows
def none {H : Type} : Left H := { results := [], args := [] }

/-- 'guerdonlaw12.TableValidate': WHATEVER THE INPUT: true; the input reads as it did. -/
def tableValidateSpec : ChangeSpec := { name := "tableValidate", fn := fun _ => fun
  | [d1, d2] => { results := [.lit (.bool true)], args := [d1, d2] }
  | _ => none }
def tableValidateRow : OpenClaim := { program := "ytcdkmhmlpjnfeaa", sum := "9e4e8b4bd553387e7222a2a1b066e7e84131169b3ca4ae6f33c45e1f6151615e", func := "guerdon/guerdonlaw12.TableValidate", spec := "tableValidate", unfollowed := true, recurses := true, named := ["math/bits.divideError", "math/bits.overflowError"], apart := false }
def TableValidateSaid : Prop := tableValidateRow.holds Try.pinned (OpenSpec.ofChange tableValidateSpec)

/-- ITS FALSE NEIGHBOUR: 'it returns false'. Refute it at one input. -/
def tableValidateWrong : ChangeSpec := { name := "tableValidate", fn := fun _ => fun
  | [d1, d2] => { results := [.lit (.bool false)], args := [d1, d2] }
  | _ => none }
def TableValidateWrongFalsely : Prop := tableValidateRow.holds Try.pinned (OpenSpec.ofChange tableValidateWrong)

/-- 'guerdonlaw12.TableUncovered': WHATEVER THE INPUT: true; the input reads as it did. -/
def tableUncoveredSpec : ChangeSpec := { name := "tableUncovered", fn := fun _ => fun
  | [d1, d2, d3, d4] => { results := [.lit (.bool true)], args := [d1, d2, d3, d4] }
  | _ => none }
def tableUncoveredRow : OpenClaim := { program := "ytcdkmhmlpjnfeaa", sum := "9e4e8b4bd553387e7222a2a1b066e7e84131169b3ca4ae6f33c45e1f6151615e", func := "guerdon/guerdonlaw12.TableUncovered", spec := "tableUncovered", unfollowed := true, recurses := true, named := ["math/bits.divideError", "math/bits.overflowError"], apart := false }
def TableUncoveredSaid : Prop := tableUncoveredRow.holds Try.pinned (OpenSpec.ofChange tableUncoveredSpec)

/-- ITS FALSE NEIGHBOUR: 'it returns false'. Refute it at one input. -/
def tableUncoveredWrong : ChangeSpec := { name := "tableUncovered", fn := fun _ => fun
  | [d1, d2, d3, d4] => { results := [.lit (.bool false)], args := [d1, d2, d3, d4] }
  | _ => none }
def TableUncoveredWrongFalsely : Prop := tableUncoveredRow.holds Try.pinned (OpenSpec.ofChange tableUncoveredWrong)

/-- 'guerdonlaw12.TableBrackets': WHATEVER THE INPUT: true; the input reads as it did. -/
def tableBracketsSpec : ChangeSpec := { name := "tableBrackets", fn := fun _ => fun
  | [d1, d2, d3, d4] => { results := [.lit (.bool true)], args := [d1, d2, d3, d4] }
  | _ => none }
def tableBracketsRow : OpenClaim := { program := "ytcdkmhmlpjnfeaa", sum := "9e4e8b4bd553387e7222a2a1b066e7e84131169b3ca4ae6f33c45e1f6151615e", func := "guerdon/guerdonlaw12.TableBrackets", spec := "tableBrackets", unfollowed := true, recurses := true, named := ["math/bits.divideError", "math/bits.overflowError"], apart := false }
def TableBracketsSaid : Prop := tableBracketsRow.holds Try.pinned (OpenSpec.ofChange tableBracketsSpec)

/-- ITS FALSE NEIGHBOUR: 'it returns false'. Refute it at one input. -/
def tableBracketsWrong : ChangeSpec := { name := "tableBrackets", fn := fun _ => fun
  | [d1, d2, d3, d4] => { results := [.lit (.bool false)], args := [d1, d2, d3, d4] }
  | _ => none }
def TableBracketsWrongFalsely : Prop := tableBracketsRow.holds Try.pinned (OpenSpec.ofChange tableBracketsWrong)

/-- 'guerdonlaw12.TableUnique': WHATEVER THE INPUT: true; the input reads as it did. -/
def tableUniqueSpec : ChangeSpec := { name := "tableUnique", fn := fun _ => fun
  | [d1, d2, d3, d4] => { results := [.lit (.bool true)], args := [d1, d2, d3, d4] }
  | _ => none }
def tableUniqueRow : OpenClaim := { program := "ytcdkmhmlpjnfeaa", sum := "9e4e8b4bd553387e7222a2a1b066e7e84131169b3ca4ae6f33c45e1f6151615e", func := "guerdon/guerdonlaw12.TableUnique", spec := "tableUnique", unfollowed := true, recurses := true, named := ["math/bits.divideError", "math/bits.overflowError"], apart := false }
def TableUniqueSaid : Prop := tableUniqueRow.holds Try.pinned (OpenSpec.ofChange tableUniqueSpec)

/-- ITS FALSE NEIGHBOUR: 'it returns false'. Refute it at one input. -/
def tableUniqueWrong : ChangeSpec := { name := "tableUnique", fn := fun _ => fun
  | [d1, d2, d3, d4] => { results := [.lit (.bool false)], args := [d1, d2, d3, d4] }
  | _ => none }
def TableUniqueWrongFalsely : Prop := tableUniqueRow.holds Try.pinned (OpenSpec.ofChange tableUniqueWrong)

/-- 'guerdonlaw12.TableSplit': WHATEVER THE INPUT: true; the input reads as it did. -/
def tableSplitSpec : ChangeSpec := { name := "tableSplit", fn := fun _ => fun
  | [d1, d2, d3, d4] => { results := [.lit (.bool true)], args := [d1, d2, d3, d4] }
  | _ => none }
def tableSplitRow : OpenClaim := { program := "ytcdkmhmlpjnfeaa", sum := "9e4e8b4bd553387e7222a2a1b066e7e84131169b3ca4ae6f33c45e1f6151615e", func := "guerdon/guerdonlaw12.TableSplit", spec := "tableSplit", unfollowed := true, recurses := true, named := ["math/bits.divideError", "math/bits.overflowError"], apart := false }
def TableSplitSaid : Prop := tableSplitRow.holds Try.pinned (OpenSpec.ofChange tableSplitSpec)

/-- ITS FALSE NEIGHBOUR: 'it returns false'. Refute it at one input. -/
def tableSplitWrong : ChangeSpec := { name := "tableSplit", fn := fun _ => fun
  | [d1, d2, d3, d4] => { results := [.lit (.bool false)], args := [d1, d2, d3, d4] }
  | _ => none }
def TableSplitWrongFalsely : Prop := tableSplitRow.holds Try.pinned (OpenSpec.ofChange tableSplitWrong)

/-- 'guerdonlaw12.TableFlatRate': WHATEVER THE INPUT: true; the input reads as it did. -/
def tableFlatRateSpec : ChangeSpec := { name := "tableFlatRate", fn := fun _ => fun
  | [d1, d2, d3] => { results := [.lit (.bool true)], args := [d1, d2, d3] }
  | _ => none }
def tableFlatRateRow : OpenClaim := { program := "ytcdkmhmlpjnfeaa", sum := "9e4e8b4bd553387e7222a2a1b066e7e84131169b3ca4ae6f33c45e1f6151615e", func := "guerdon/guerdonlaw12.TableFlatRate", spec := "tableFlatRate", unfollowed := true, recurses := true, named := ["math/bits.divideError", "math/bits.overflowError"], apart := false }
def TableFlatRateSaid : Prop := tableFlatRateRow.holds Try.pinned (OpenSpec.ofChange tableFlatRateSpec)

/-- ITS FALSE NEIGHBOUR: 'it returns false'. Refute it at one input. -/
def tableFlatRateWrong : ChangeSpec := { name := "tableFlatRate", fn := fun _ => fun
  | [d1, d2, d3] => { results := [.lit (.bool false)], args := [d1, d2, d3] }
  | _ => none }
def TableFlatRateWrongFalsely : Prop := tableFlatRateRow.holds Try.pinned (OpenSpec.ofChange tableFlatRateWrong)

/-- 'guerdonlaw12.TableLookup': WHATEVER THE INPUT: true; the input reads as it did. -/
def tableLookupSpec : ChangeSpec := { name := "tableLookup", fn := fun _ => fun
  | [d1, d2, d3] => { results := [.lit (.bool true)], args := [d1, d2, d3] }
  | _ => none }
def tableLookupRow : OpenClaim := { program := "ytcdkmhmlpjnfeaa", sum := "9e4e8b4bd553387e7222a2a1b066e7e84131169b3ca4ae6f33c45e1f6151615e", func := "guerdon/guerdonlaw12.TableLookup", spec := "tableLookup", unfollowed := true, recurses := true, named := ["math/bits.divideError", "math/bits.overflowError"], apart := false }
def TableLookupSaid : Prop := tableLookupRow.holds Try.pinned (OpenSpec.ofChange tableLookupSpec)

/-- ITS FALSE NEIGHBOUR: 'it returns false'. Refute it at one input. -/
def tableLookupWrong : ChangeSpec := { name := "tableLookup", fn := fun _ => fun
  | [d1, d2, d3] => { results := [.lit (.bool false)], args := [d1, d2, d3] }
  | _ => none }
def TableLookupWrongFalsely : Prop := tableLookupRow.holds Try.pinned (OpenSpec.ofChange tableLookupWrong)

/- THE SECOND FORM. 'bulk': how many values and letters a reading holds, each counted each time it is reached (what is shared counts as often as it is met; a slice's spare places count too). A statement '..UptoSaid' is the law's where the arguments, and the package variables that the reading takes, are together of bulk at most 1048576: NARROWER than '..Said'. Prove '..Said' where nothing that the law and all that it calls make is longer than what came in: it says more and counts as full. Else prove '..UptoSaid'. A law counts once. -/
mutual
def uptoBulk {H : Type} : DataW H → Nat
  | .lit (.string bytes) => bytes.length + 1
  | .lit _ => 1
  | .nil => 1
  | .ptr d => uptoBulk d + 1
  | .slice elems spare => uptoBulkAll elems + uptoBulkAll spare + 1
  | .agg parts => uptoBulkAll parts + 1
  | .iface _ d => uptoBulk d + 1
  | .map entries => uptoBulkEntries entries + 1
  | .held _ => 1
def uptoBulkAll {H : Type} : List (DataW H) → Nat
  | [] => 0
  | d :: r => uptoBulk d + uptoBulkAll r
def uptoBulkEntries {H : Type} : List (Lit × DataW H) → Nat
  | [] => 0
  | x :: r => uptoBulkEntry x + uptoBulkEntries r
def uptoBulkEntry {H : Type} : Lit × DataW H → Nat
  | (.string bytes, d) => bytes.length + uptoBulk d + 1
  | (_, d) => uptoBulk d + 1
 end
def uptoSmall : (H : Type) → List (DataW H) → Bool := fun _ ds => decide (uptoBulkAll ds ≤ 1048576)
def OpenSpec.upto (s : _root_.Go.ChangeSpec) : _root_.Go.OpenSpec := { _root_.Go.OpenSpec.ofChange s with cond := some uptoSmall }

/-- 'guerdonlaw12.TableValidate', WHERE WHAT IT READS IS OF BULK AT MOST 1048576: true; the input reads as it did. -/
def tableValidateUptoRow : OpenClaim := { program := "ytcdkmhmlpjnfeaa", sum := "9e4e8b4bd553387e7222a2a1b066e7e84131169b3ca4ae6f33c45e1f6151615e", func := "guerdon/guerdonlaw12.TableValidate", spec := "tableValidate", unfollowed := true, recurses := true, named := ["math/bits.divideError", "math/bits.overflowError"], apart := false, narrowed := true }
def TableValidateUptoSaid : Prop := tableValidateUptoRow.holds Try.pinned (OpenSpec.upto tableValidateSpec)

/-- 'guerdonlaw12.TableUncovered', WHERE WHAT IT READS IS OF BULK AT MOST 1048576: true; the input reads as it did. -/
def tableUncoveredUptoRow : OpenClaim := { program := "ytcdkmhmlpjnfeaa", sum := "9e4e8b4bd553387e7222a2a1b066e7e84131169b3ca4ae6f33c45e1f6151615e", func := "guerdon/guerdonlaw12.TableUncovered", spec := "tableUncovered", unfollowed := true, recurses := true, named := ["math/bits.divideError", "math/bits.overflowError"], apart := false, narrowed := true }
def TableUncoveredUptoSaid : Prop := tableUncoveredUptoRow.holds Try.pinned (OpenSpec.upto tableUncoveredSpec)

/-- 'guerdonlaw12.TableBrackets', WHERE WHAT IT READS IS OF BULK AT MOST 1048576: true; the input reads as it did. -/
def tableBracketsUptoRow : OpenClaim := { program := "ytcdkmhmlpjnfeaa", sum := "9e4e8b4bd553387e7222a2a1b066e7e84131169b3ca4ae6f33c45e1f6151615e", func := "guerdon/guerdonlaw12.TableBrackets", spec := "tableBrackets", unfollowed := true, recurses := true, named := ["math/bits.divideError", "math/bits.overflowError"], apart := false, narrowed := true }
def TableBracketsUptoSaid : Prop := tableBracketsUptoRow.holds Try.pinned (OpenSpec.upto tableBracketsSpec)

/-- 'guerdonlaw12.TableUnique', WHERE WHAT IT READS IS OF BULK AT MOST 1048576: true; the input reads as it did. -/
def tableUniqueUptoRow : OpenClaim := { program := "ytcdkmhmlpjnfeaa", sum := "9e4e8b4bd553387e7222a2a1b066e7e84131169b3ca4ae6f33c45e1f6151615e", func := "guerdon/guerdonlaw12.TableUnique", spec := "tableUnique", unfollowed := true, recurses := true, named := ["math/bits.divideError", "math/bits.overflowError"], apart := false, narrowed := true }
def TableUniqueUptoSaid : Prop := tableUniqueUptoRow.holds Try.pinned (OpenSpec.upto tableUniqueSpec)

/-- 'guerdonlaw12.TableSplit', WHERE WHAT IT READS IS OF BULK AT MOST 1048576: true; the input reads as it did. -/
def tableSplitUptoRow : OpenClaim := { program := "ytcdkmhmlpjnfeaa", sum := "9e4e8b4bd553387e7222a2a1b066e7e84131169b3ca4ae6f33c45e1f6151615e", func := "guerdon/guerdonlaw12.TableSplit", spec := "tableSplit", unfollowed := true, recurses := true, named := ["math/bits.divideError", "math/bits.overflowError"], apart := false, narrowed := true }
def TableSplitUptoSaid : Prop := tableSplitUptoRow.holds Try.pinned (OpenSpec.upto tableSplitSpec)

/-- 'guerdonlaw12.TableFlatRate', WHERE WHAT IT READS IS OF BULK AT MOST 1048576: true; the input reads as it did. -/
def tableFlatRateUptoRow : OpenClaim := { program := "ytcdkmhmlpjnfeaa", sum := "9e4e8b4bd553387e7222a2a1b066e7e84131169b3ca4ae6f33c45e1f6151615e", func := "guerdon/guerdonlaw12.TableFlatRate", spec := "tableFlatRate", unfollowed := true, recurses := true, named := ["math/bits.divideError", "math/bits.overflowError"], apart := false, narrowed := true }
def TableFlatRateUptoSaid : Prop := tableFlatRateUptoRow.holds Try.pinned (OpenSpec.upto tableFlatRateSpec)

/-- 'guerdonlaw12.TableLookup', WHERE WHAT IT READS IS OF BULK AT MOST 1048576: true; the input reads as it did. -/
def tableLookupUptoRow : OpenClaim := { program := "ytcdkmhmlpjnfeaa", sum := "9e4e8b4bd553387e7222a2a1b066e7e84131169b3ca4ae6f33c45e1f6151615e", func := "guerdon/guerdonlaw12.TableLookup", spec := "tableLookup", unfollowed := true, recurses := true, named := ["math/bits.divideError", "math/bits.overflowError"], apart := false, narrowed := true }
def TableLookupUptoSaid : Prop := tableLookupUptoRow.holds Try.pinned (OpenSpec.upto tableLookupSpec)

end Rows
end Go.Proofs.Ytcdkmhmlpjnfeaa
