/-
  No cell of these rows narrows 'for every input' (looked for: loops, veiled, ifaces, maps, wideKeys, modest, calm, conditions, laid).
  DERIVED. THE GIVEN ROWS OF THIS SEAT. 6 by the template 'for every input the law returns true; each argument reads behind the call as it read before'; 0 by the template 'total and deterministic' (their statements: YtnfdimmbpcgkpaaTotals.lean).
  GIVEN WITH THE SEED: the statements are not yours to turn. If you find one false, say at which input.
  Laid BY PROGRAM, IN A SANDBOX (cutbox-rows.mjs): the forced cells as the released guide's own fill.sh prints them over the translation 900c4ccb16edfc15… (all of the seat's roots in one cut). By AI agents, Wed Nov 11 2026. No macro, syntax, notation, axiom, sorry.
-/
import Derived.Test.YtnfdimmbpcgkpaaChecked
import GoSem.Claim
import GoSem.ClaimJoined
import GoSem.ClaimMapViews
import Derived.JoinedTies
import Derived.KernelRfl
namespace Go.Proofs.Ytnfdimmbpcgkpaa
/- THE CELL 'sum', in the pinned program and in every row, IS THE sha256 OF THE DUMP (.gsa) THAT YtnfdimmbpcgkpaaProg.lean LOADS. Nothing in Lean hashes anything: it is a label: what it is worth is what the hold of that sum in a sandbox is worth. -/
noncomputable def Try.pinned : Pinned := { name := "ytnfdimmbpcgkpaa", sum := "900c4ccb16edfc1518e22ff68f60f4a449672b902b091264dcecac4839702672", checked := Try.checked }
namespace Rows
def none {H : Type} : Left H := { results := [], args := [] }

/-- 'guerdonlaw05.DaterangeLists': WHATEVER THE INPUT: true; the input reads as it did. -/
def daterangeListsSpec : ChangeSpec := { name := "daterangeLists", fn := fun _ => fun
  | [d1, d2] => { results := [.lit (.bool true)], args := [d1, d2] }
  | _ => none }
def daterangeListsRow : OpenClaim := { program := "ytnfdimmbpcgkpaa", sum := "900c4ccb16edfc1518e22ff68f60f4a449672b902b091264dcecac4839702672", func := "guerdon/guerdonlaw05.DaterangeLists", spec := "daterangeLists", unfollowed := true, recurses := true, apart := false }
def DaterangeListsSaid : Prop := daterangeListsRow.holds Try.pinned (OpenSpec.ofChange daterangeListsSpec)

/-- ITS FALSE NEIGHBOUR: 'it returns false'. Refute it at one input. -/
def daterangeListsWrong : ChangeSpec := { name := "daterangeLists", fn := fun _ => fun
  | [d1, d2] => { results := [.lit (.bool false)], args := [d1, d2] }
  | _ => none }
def DaterangeListsWrongFalsely : Prop := daterangeListsRow.holds Try.pinned (OpenSpec.ofChange daterangeListsWrong)

/-- 'guerdonlaw05.DaterangeOrder': WHATEVER THE INPUT: true; the input reads as it did. -/
def daterangeOrderSpec : ChangeSpec := { name := "daterangeOrder", fn := fun _ => fun
  | [d1, d2, d3] => { results := [.lit (.bool true)], args := [d1, d2, d3] }
  | _ => none }
def daterangeOrderRow : OpenClaim := { program := "ytnfdimmbpcgkpaa", sum := "900c4ccb16edfc1518e22ff68f60f4a449672b902b091264dcecac4839702672", func := "guerdon/guerdonlaw05.DaterangeOrder", spec := "daterangeOrder", unfollowed := true, recurses := true, apart := false }
def DaterangeOrderSaid : Prop := daterangeOrderRow.holds Try.pinned (OpenSpec.ofChange daterangeOrderSpec)

/-- ITS FALSE NEIGHBOUR: 'it returns false'. Refute it at one input. -/
def daterangeOrderWrong : ChangeSpec := { name := "daterangeOrder", fn := fun _ => fun
  | [d1, d2, d3] => { results := [.lit (.bool false)], args := [d1, d2, d3] }
  | _ => none }
def DaterangeOrderWrongFalsely : Prop := daterangeOrderRow.holds Try.pinned (OpenSpec.ofChange daterangeOrderWrong)

/-- 'guerdonlaw05.DaterangePartition': WHATEVER THE INPUT: true; the input reads as it did. -/
def daterangePartitionSpec : ChangeSpec := { name := "daterangePartition", fn := fun _ => fun
  | [d1, d2, d3] => { results := [.lit (.bool true)], args := [d1, d2, d3] }
  | _ => none }
def daterangePartitionRow : OpenClaim := { program := "ytnfdimmbpcgkpaa", sum := "900c4ccb16edfc1518e22ff68f60f4a449672b902b091264dcecac4839702672", func := "guerdon/guerdonlaw05.DaterangePartition", spec := "daterangePartition", unfollowed := true, recurses := true, apart := false }
def DaterangePartitionSaid : Prop := daterangePartitionRow.holds Try.pinned (OpenSpec.ofChange daterangePartitionSpec)

/-- ITS FALSE NEIGHBOUR: 'it returns false'. Refute it at one input. -/
def daterangePartitionWrong : ChangeSpec := { name := "daterangePartition", fn := fun _ => fun
  | [d1, d2, d3] => { results := [.lit (.bool false)], args := [d1, d2, d3] }
  | _ => none }
def DaterangePartitionWrongFalsely : Prop := daterangePartitionRow.holds Try.pinned (OpenSpec.ofChange daterangePartitionWrong)

/-- 'guerdonlaw05.DaterangeUnion': WHATEVER THE INPUT: true; the input reads as it did. -/
def daterangeUnionSpec : ChangeSpec := { name := "daterangeUnion", fn := fun _ => fun
  | [d1, d2] => { results := [.lit (.bool true)], args := [d1, d2] }
  | _ => none }
def daterangeUnionRow : OpenClaim := { program := "ytnfdimmbpcgkpaa", sum := "900c4ccb16edfc1518e22ff68f60f4a449672b902b091264dcecac4839702672", func := "guerdon/guerdonlaw05.DaterangeUnion", spec := "daterangeUnion", unfollowed := true, recurses := true, apart := false }
def DaterangeUnionSaid : Prop := daterangeUnionRow.holds Try.pinned (OpenSpec.ofChange daterangeUnionSpec)

/-- ITS FALSE NEIGHBOUR: 'it returns false'. Refute it at one input. -/
def daterangeUnionWrong : ChangeSpec := { name := "daterangeUnion", fn := fun _ => fun
  | [d1, d2] => { results := [.lit (.bool false)], args := [d1, d2] }
  | _ => none }
def DaterangeUnionWrongFalsely : Prop := daterangeUnionRow.holds Try.pinned (OpenSpec.ofChange daterangeUnionWrong)

/-- 'guerdonlaw05.DaterangePairs': WHATEVER THE INPUT: true; the input reads as it did. -/
def daterangePairsSpec : ChangeSpec := { name := "daterangePairs", fn := fun _ => fun
  | [d1, d2, d3] => { results := [.lit (.bool true)], args := [d1, d2, d3] }
  | _ => none }
def daterangePairsRow : OpenClaim := { program := "ytnfdimmbpcgkpaa", sum := "900c4ccb16edfc1518e22ff68f60f4a449672b902b091264dcecac4839702672", func := "guerdon/guerdonlaw05.DaterangePairs", spec := "daterangePairs", unfollowed := true, recurses := true, apart := false }
def DaterangePairsSaid : Prop := daterangePairsRow.holds Try.pinned (OpenSpec.ofChange daterangePairsSpec)

/-- ITS FALSE NEIGHBOUR: 'it returns false'. Refute it at one input. -/
def daterangePairsWrong : ChangeSpec := { name := "daterangePairs", fn := fun _ => fun
  | [d1, d2, d3] => { results := [.lit (.bool false)], args := [d1, d2, d3] }
  | _ => none }
def DaterangePairsWrongFalsely : Prop := daterangePairsRow.holds Try.pinned (OpenSpec.ofChange daterangePairsWrong)

/-- 'guerdonlaw05.DaterangeSplit': WHATEVER THE INPUT: true; the input reads as it did. -/
def daterangeSplitSpec : ChangeSpec := { name := "daterangeSplit", fn := fun _ => fun
  | [d1, d2, d3] => { results := [.lit (.bool true)], args := [d1, d2, d3] }
  | _ => none }
def daterangeSplitRow : OpenClaim := { program := "ytnfdimmbpcgkpaa", sum := "900c4ccb16edfc1518e22ff68f60f4a449672b902b091264dcecac4839702672", func := "guerdon/guerdonlaw05.DaterangeSplit", spec := "daterangeSplit", unfollowed := true, recurses := true, apart := false }
def DaterangeSplitSaid : Prop := daterangeSplitRow.holds Try.pinned (OpenSpec.ofChange daterangeSplitSpec)

/-- ITS FALSE NEIGHBOUR: 'it returns false'. Refute it at one input. -/
def daterangeSplitWrong : ChangeSpec := { name := "daterangeSplit", fn := fun _ => fun
  | [d1, d2, d3] => { results := [.lit (.bool false)], args := [d1, d2, d3] }
  | _ => none }
def DaterangeSplitWrongFalsely : Prop := daterangeSplitRow.holds Try.pinned (OpenSpec.ofChange daterangeSplitWrong)

/- THE SECOND FORM. 'bulk': how many values and letters a reading holds, each counted each time it is reached (what is shared counts as often as it is met; a slice's spare places count too). A statement '..UptoSaid' is the law's where the arguments, and the package variables that the reading takes, are together of bulk at most 1048576: NARROWER than '..Said'. Prove '..Said' where nothing that the law and all that it calls make is longer than what came in: it says more and counts as full. Else prove '..UptoSaid'. A law counts once. -/
mutual
def uptoBulk {H : Type} : DataW H → Nat
  | .lit (.string bytes) => bytes.length + 1
  | .lit _ => 1
  | .nil => 1
  | .ptr d => uptoBulk d + 1
  | .slice elems spare => uptoBulkAll elems + uptoBulkAll spare + 1
  | .agg parts => uptoBulkAll parts + 1
  | .iface _ d => uptoBulk d + 1
  | .map entries => uptoBulkEntries entries + 1
  | .held _ => 1
def uptoBulkAll {H : Type} : List (DataW H) → Nat
  | [] => 0
  | d :: r => uptoBulk d + uptoBulkAll r
def uptoBulkEntries {H : Type} : List (Lit × DataW H) → Nat
  | [] => 0
  | x :: r => uptoBulkEntry x + uptoBulkEntries r
def uptoBulkEntry {H : Type} : Lit × DataW H → Nat
  | (.string bytes, d) => bytes.length + uptoBulk d + 1
  | (_, d) => uptoBulk d + 1
 end
def uptoSmall : (H : Type) → List (DataW H) → Bool := fun _ ds => decide (uptoBulkAll ds ≤ 1048576)
def OpenSpec.upto (s : _root_.Go.ChangeSpec) : _root_.Go.OpenSpec := { _root_.Go.OpenSpec.ofChange s with cond := some uptoSmall }

/-- 'guerdonlaw05.DaterangeLists', WHERE WHAT IT READS IS OF BULK AT MOST 1048576: true; the input reads as it did. -/
def daterangeListsUptoRow : OpenClaim := { program := "ytnfdimmbpcgkpaa", sum := "900c4ccb16edfc1518e22ff68f60f4a449672b902b091264dcecac4839702672", func := "guerdon/guerdonlaw05.DaterangeLists", spec := "daterangeLists", unfollowed := true, recurses := true, apart := false, narrowed := true }
def DaterangeListsUptoSaid : Prop := daterangeListsUptoRow.holds Try.pinned (OpenSpec.upto daterangeListsSpec)

/-- 'guerdonlaw05.DaterangeOrder', WHERE WHAT IT READS IS OF BULK AT MOST 1048576: true; the input reads as it did. -/
def daterangeOrderUptoRow : OpenClaim := { program := "ytnfdimmbpcgkpaa", sum := "900c4ccb16edfc1518e22ff68f60f4a449672b902b091264dcecac4839702672", func := "guerdon/guerdonlaw05.DaterangeOrder", spec := "daterangeOrder", unfollowed := true, recurses := true, apart := false, narrowed := true }
def DaterangeOrderUptoSaid : Prop := daterangeOrderUptoRow.holds Try.pinned (OpenSpec.upto daterangeOrderSpec)

/-- 'guerdonlaw05.DaterangePartition', WHERE WHAT IT READS IS OF BULK AT MOST 1048576: true; the input reads as it did. -/
def daterangePartitionUptoRow : OpenClaim := { program := "ytnfdimmbpcgkpaa", sum := "900c4ccb16edfc1518e22ff68f60f4a449672b902b091264dcecac4839702672", func := "guerdon/guerdonlaw05.DaterangePartition", spec := "daterangePartition", unfollowed := true, recurses := true, apart := false, narrowed := true }
def DaterangePartitionUptoSaid : Prop := daterangePartitionUptoRow.holds Try.pinned (OpenSpec.upto daterangePartitionSpec)

/-- 'guerdonlaw05.DaterangeUnion', WHERE WHAT IT READS IS OF BULK AT MOST 1048576: true; the input reads as it did. -/
def daterangeUnionUptoRow : OpenClaim := { program := "ytnfdimmbpcgkpaa", sum := "900c4ccb16edfc1518e22ff68f60f4a449672b902b091264dcecac4839702672", func := "guerdon/guerdonlaw05.DaterangeUnion", spec := "daterangeUnion", unfollowed := true, recurses := true, apart := false, narrowed := true }
def DaterangeUnionUptoSaid : Prop := daterangeUnionUptoRow.holds Try.pinned (OpenSpec.upto daterangeUnionSpec)

/-- 'guerdonlaw05.DaterangePairs', WHERE WHAT IT READS IS OF BULK AT MOST 1048576: true; the input reads as it did. -/
def daterangePairsUptoRow : OpenClaim := { program := "ytnfdimmbpcgkpaa", sum := "900c4ccb16edfc1518e22ff68f60f4a449672b902b091264dcecac4839702672", func := "guerdon/guerdonlaw05.DaterangePairs", spec := "daterangePairs", unfollowed := true, recurses := true, apart := false, narrowed := true }
def DaterangePairsUptoSaid : Prop := daterangePairsUptoRow.holds Try.pinned (OpenSpec.upto daterangePairsSpec)

/-- 'guerdonlaw05.DaterangeSplit', WHERE WHAT IT READS IS OF BULK AT MOST 1048576: true; the input reads as it did. -/
def daterangeSplitUptoRow : OpenClaim := { program := "ytnfdimmbpcgkpaa", sum := "900c4ccb16edfc1518e22ff68f60f4a449672b902b091264dcecac4839702672", func := "guerdon/guerdonlaw05.DaterangeSplit", spec := "daterangeSplit", unfollowed := true, recurses := true, apart := false, narrowed := true }
def DaterangeSplitUptoSaid : Prop := daterangeSplitUptoRow.holds Try.pinned (OpenSpec.upto daterangeSplitSpec)

end Rows
end Go.Proofs.Ytnfdimmbpcgkpaa
