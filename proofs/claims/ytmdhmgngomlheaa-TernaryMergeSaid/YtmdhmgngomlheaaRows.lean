/-
  No cell of these rows narrows 'for every input' (looked for: loops, veiled, ifaces, maps, wideKeys, modest, calm, conditions, laid).
  DERIVED. THE GIVEN ROWS OF THIS SEAT. 5 by the template 'for every input the law returns true; each argument reads behind the call as it read before'; 0 by the template 'total and deterministic' (their statements: YtmdhmgngomlheaaTotals.lean).
  GIVEN WITH THE SEED: the statements are not yours to turn. If you find one false, say at which input.
  Laid BY PROGRAM, IN A SANDBOX (cutbox-rows.mjs): the forced cells as the released guide's own fill.sh prints them over the translation fbe9e95eb9bc1c61… (all of the seat's roots in one cut). By AI agents, Wed Nov 11 2026. No macro, syntax, notation, axiom, sorry.
-/
import Derived.Test.YtmdhmgngomlheaaChecked
import GoSem.Claim
import GoSem.ClaimJoined
import GoSem.ClaimMapViews
import Derived.JoinedTies
import Derived.KernelRfl
namespace Go.Proofs.Ytmdhmgngomlheaa
/- THE CELL 'sum', in the pinned program and in every row, IS THE sha256 OF THE DUMP (.gsa) THAT YtmdhmgngomlheaaProg.lean LOADS. Nothing in Lean hashes anything: it is a label: what it is worth is what the hold of that sum in a sandbox is worth. -/
noncomputable def Try.pinned : Pinned := { name := "ytmdhmgngomlheaa", sum := "fbe9e95eb9bc1c61423572b0fdb2cb16c42e4ba34f966b133d8f8c88f36858f3", checked := Try.checked }
namespace Rows
def none {H : Type} : Left H := { results := [], args := [] }

/-- 'guerdonlaw30.TernaryMinimize': WHATEVER THE INPUT: true; the input reads as it did. -/
def ternaryMinimizeSpec : ChangeSpec := { name := "ternaryMinimize", fn := fun _ => fun
  | [d1, d2] => { results := [.lit (.bool true)], args := [d1, d2] }
  | _ => none }
def ternaryMinimizeRow : OpenClaim := { program := "ytmdhmgngomlheaa", sum := "fbe9e95eb9bc1c61423572b0fdb2cb16c42e4ba34f966b133d8f8c88f36858f3", func := "guerdon/guerdonlaw30.TernaryMinimize", spec := "ternaryMinimize", unfollowed := true, recurses := true, plainKeys := false, apart := false }
def TernaryMinimizeSaid : Prop := ternaryMinimizeRow.holds Try.pinned (OpenSpec.ofChange ternaryMinimizeSpec)

/-- ITS FALSE NEIGHBOUR: 'it returns false'. Refute it at one input. -/
def ternaryMinimizeWrong : ChangeSpec := { name := "ternaryMinimize", fn := fun _ => fun
  | [d1, d2] => { results := [.lit (.bool false)], args := [d1, d2] }
  | _ => none }
def TernaryMinimizeWrongFalsely : Prop := ternaryMinimizeRow.holds Try.pinned (OpenSpec.ofChange ternaryMinimizeWrong)

/-- 'guerdonlaw30.TernaryPatterns': WHATEVER THE INPUT: true; the input reads as it did. -/
def ternaryPatternsSpec : ChangeSpec := { name := "ternaryPatterns", fn := fun _ => fun
  | [d1, d2, d3, d4] => { results := [.lit (.bool true)], args := [d1, d2, d3, d4] }
  | _ => none }
def ternaryPatternsRow : OpenClaim := { program := "ytmdhmgngomlheaa", sum := "fbe9e95eb9bc1c61423572b0fdb2cb16c42e4ba34f966b133d8f8c88f36858f3", func := "guerdon/guerdonlaw30.TernaryPatterns", spec := "ternaryPatterns", unfollowed := true, recurses := true, plainKeys := false, apart := false }
def TernaryPatternsSaid : Prop := ternaryPatternsRow.holds Try.pinned (OpenSpec.ofChange ternaryPatternsSpec)

/-- ITS FALSE NEIGHBOUR: 'it returns false'. Refute it at one input. -/
def ternaryPatternsWrong : ChangeSpec := { name := "ternaryPatterns", fn := fun _ => fun
  | [d1, d2, d3, d4] => { results := [.lit (.bool false)], args := [d1, d2, d3, d4] }
  | _ => none }
def TernaryPatternsWrongFalsely : Prop := ternaryPatternsRow.holds Try.pinned (OpenSpec.ofChange ternaryPatternsWrong)

/-- 'guerdonlaw30.TernaryParse': WHATEVER THE INPUT: true; the input reads as it did. -/
def ternaryParseSpec : ChangeSpec := { name := "ternaryParse", fn := fun _ => fun
  | [d] => { results := [.lit (.bool true)], args := [d] }
  | _ => none }
def ternaryParseRow : OpenClaim := { program := "ytmdhmgngomlheaa", sum := "fbe9e95eb9bc1c61423572b0fdb2cb16c42e4ba34f966b133d8f8c88f36858f3", func := "guerdon/guerdonlaw30.TernaryParse", spec := "ternaryParse", unfollowed := true, recurses := true, plainKeys := false, apart := false }
def TernaryParseSaid : Prop := ternaryParseRow.holds Try.pinned (OpenSpec.ofChange ternaryParseSpec)

/-- ITS FALSE NEIGHBOUR: 'it returns false'. Refute it at one input. -/
def ternaryParseWrong : ChangeSpec := { name := "ternaryParse", fn := fun _ => fun
  | [d] => { results := [.lit (.bool false)], args := [d] }
  | _ => none }
def TernaryParseWrongFalsely : Prop := ternaryParseRow.holds Try.pinned (OpenSpec.ofChange ternaryParseWrong)

/-- 'guerdonlaw30.TernaryExact': WHATEVER THE INPUT: true; the input reads as it did. -/
def ternaryExactSpec : ChangeSpec := { name := "ternaryExact", fn := fun _ => fun
  | [d1, d2] => { results := [.lit (.bool true)], args := [d1, d2] }
  | _ => none }
def ternaryExactRow : OpenClaim := { program := "ytmdhmgngomlheaa", sum := "fbe9e95eb9bc1c61423572b0fdb2cb16c42e4ba34f966b133d8f8c88f36858f3", func := "guerdon/guerdonlaw30.TernaryExact", spec := "ternaryExact", unfollowed := true, recurses := true, plainKeys := false, apart := false }
def TernaryExactSaid : Prop := ternaryExactRow.holds Try.pinned (OpenSpec.ofChange ternaryExactSpec)

/-- ITS FALSE NEIGHBOUR: 'it returns false'. Refute it at one input. -/
def ternaryExactWrong : ChangeSpec := { name := "ternaryExact", fn := fun _ => fun
  | [d1, d2] => { results := [.lit (.bool false)], args := [d1, d2] }
  | _ => none }
def TernaryExactWrongFalsely : Prop := ternaryExactRow.holds Try.pinned (OpenSpec.ofChange ternaryExactWrong)

/-- 'guerdonlaw30.TernaryMerge': WHATEVER THE INPUT: true; the input reads as it did. -/
def ternaryMergeSpec : ChangeSpec := { name := "ternaryMerge", fn := fun _ => fun
  | [d1, d2, d3, d4] => { results := [.lit (.bool true)], args := [d1, d2, d3, d4] }
  | _ => none }
def ternaryMergeRow : OpenClaim := { program := "ytmdhmgngomlheaa", sum := "fbe9e95eb9bc1c61423572b0fdb2cb16c42e4ba34f966b133d8f8c88f36858f3", func := "guerdon/guerdonlaw30.TernaryMerge", spec := "ternaryMerge", unfollowed := true, recurses := true, plainKeys := false, apart := false }
def TernaryMergeSaid : Prop := ternaryMergeRow.holds Try.pinned (OpenSpec.ofChange ternaryMergeSpec)

/-- ITS FALSE NEIGHBOUR: 'it returns false'. Refute it at one input. -/
def ternaryMergeWrong : ChangeSpec := { name := "ternaryMerge", fn := fun _ => fun
  | [d1, d2, d3, d4] => { results := [.lit (.bool false)], args := [d1, d2, d3, d4] }
  | _ => none }
def TernaryMergeWrongFalsely : Prop := ternaryMergeRow.holds Try.pinned (OpenSpec.ofChange ternaryMergeWrong)

/- THE SECOND FORM. 'bulk': how many values and letters a reading holds, each counted each time it is reached (what is shared counts as often as it is met; a slice's spare places count too). A statement '..UptoSaid' is the law's where the arguments, and the package variables that the reading takes, are together of bulk at most 1048576: NARROWER than '..Said'. Prove '..Said' where nothing that the law and all that it calls make is longer than what came in: it says more and counts as full. Else prove '..UptoSaid'. A law counts once. -/
mutual
def uptoBulk {H : Type} : DataW H → Nat
  | .lit (.string bytes) => bytes.length + 1
  | .lit _ => 1
  | .nil => 1
  | .ptr d => uptoBulk d + 1
  | .slice elems spare => uptoBulkAll elems + uptoBulkAll spare + 1
  | .agg parts => uptoBulkAll parts + 1
  | .iface _ d => uptoBulk d + 1
  | .map entries => uptoBulkEntries entries + 1
  | .held _ => 1
def uptoBulkAll {H : Type} : List (DataW H) → Nat
  | [] => 0
  | d :: r => uptoBulk d + uptoBulkAll r
def uptoBulkEntries {H : Type} : List (Lit × DataW H) → Nat
  | [] => 0
  | x :: r => uptoBulkEntry x + uptoBulkEntries r
def uptoBulkEntry {H : Type} : Lit × DataW H → Nat
  | (.string bytes, d) => bytes.length + uptoBulk d + 1
  | (_, d) => uptoBulk d + 1
 end
def uptoSmall : (H : Type) → List (DataW H) → Bool := fun _ ds => decide (uptoBulkAll ds ≤ 1048576)
def OpenSpec.upto (s : _root_.Go.ChangeSpec) : _root_.Go.OpenSpec := { _root_.Go.OpenSpec.ofChange s with cond := some uptoSmall }

/-- 'guerdonlaw30.TernaryMinimize', WHERE WHAT IT READS IS OF BULK AT MOST 1048576: true; the input reads as it did. -/
def ternaryMinimizeUptoRow : OpenClaim := { program := "ytmdhmgngomlheaa", sum := "fbe9e95eb9bc1c61423572b0fdb2cb16c42e4ba34f966b133d8f8c88f36858f3", func := "guerdon/guerdonlaw30.TernaryMinimize", spec := "ternaryMinimize", unfollowed := true, recurses := true, plainKeys := false, apart := false, narrowed := true }
def TernaryMinimizeUptoSaid : Prop := ternaryMinimizeUptoRow.holds Try.pinned (OpenSpec.upto ternaryMinimizeSpec)

/-- 'guerdonlaw30.TernaryPatterns', WHERE WHAT IT READS IS OF BULK AT MOST 1048576: true; the input reads as it did. -/
def ternaryPatternsUptoRow : OpenClaim := { program := "ytmdhmgngomlheaa", sum := "fbe9e95eb9bc1c61423572b0fdb2cb16c42e4ba34f966b133d8f8c88f36858f3", func := "guerdon/guerdonlaw30.TernaryPatterns", spec := "ternaryPatterns", unfollowed := true, recurses := true, plainKeys := false, apart := false, narrowed := true }
def TernaryPatternsUptoSaid : Prop := ternaryPatternsUptoRow.holds Try.pinned (OpenSpec.upto ternaryPatternsSpec)

/-- 'guerdonlaw30.TernaryParse', WHERE WHAT IT READS IS OF BULK AT MOST 1048576: true; the input reads as it did. -/
def ternaryParseUptoRow : OpenClaim := { program := "ytmdhmgngomlheaa", sum := "fbe9e95eb9bc1c61423572b0fdb2cb16c42e4ba34f966b133d8f8c88f36858f3", func := "guerdon/guerdonlaw30.TernaryParse", spec := "ternaryParse", unfollowed := true, recurses := true, plainKeys := false, apart := false, narrowed := true }
def TernaryParseUptoSaid : Prop := ternaryParseUptoRow.holds Try.pinned (OpenSpec.upto ternaryParseSpec)

/-- 'guerdonlaw30.TernaryExact', WHERE WHAT IT READS IS OF BULK AT MOST 1048576: true; the input reads as it did. -/
def ternaryExactUptoRow : OpenClaim := { program := "ytmdhmgngomlheaa", sum := "fbe9e95eb9bc1c61423572b0fdb2cb16c42e4ba34f966b133d8f8c88f36858f3", func := "guerdon/guerdonlaw30.TernaryExact", spec := "ternaryExact", unfollowed := true, recurses := true, plainKeys := false, apart := false, narrowed := true }
def TernaryExactUptoSaid : Prop := ternaryExactUptoRow.holds Try.pinned (OpenSpec.upto ternaryExactSpec)

/-- 'guerdonlaw30.TernaryMerge', WHERE WHAT IT READS IS OF BULK AT MOST 1048576: true; the input reads as it did. -/
def ternaryMergeUptoRow : OpenClaim := { program := "ytmdhmgngomlheaa", sum := "fbe9e95eb9bc1c61423572b0fdb2cb16c42e4ba34f966b133d8f8c88f36858f3", func := "guerdon/guerdonlaw30.TernaryMerge", spec := "ternaryMerge", unfollowed := true, recurses := true, plainKeys := false, apart := false, narrowed := true }
def TernaryMergeUptoSaid : Prop := ternaryMergeUptoRow.holds Try.pinned (OpenSpec.upto ternaryMergeSpec)

end Rows
end Go.Proofs.Ytmdhmgngomlheaa
