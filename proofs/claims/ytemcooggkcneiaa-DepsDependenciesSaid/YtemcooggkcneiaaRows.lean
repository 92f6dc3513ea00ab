/-
  No cell of these rows narrows 'for every input' (looked for: loops, veiled, ifaces, maps, wideKeys, modest, calm, conditions, laid).
  DERIVED. THE GIVEN ROWS OF THIS SEAT. 4 by the template 'for every input the law returns true; each argument reads behind the call as it read before'; 0 by the template 'total and deterministic' (their statements: YtemcooggkcneiaaTotals.lean).
  GIVEN WITH THE SEED: the statements are not yours to turn. If you find one false, say at which input.
  Laid BY PROGRAM, IN A SANDBOX (cutbox-rows.mjs): the forced cells as the released guide's own fill.sh prints them over the translation 83aedb58d8e99812… (all of the seat's roots in one cut). By AI agents, Wed Nov 11 2026. No macro, syntax, notation, axiom, sorry.
-/
import Derived.Test.YtemcooggkcneiaaChecked
import GoSem.Claim
import GoSem.ClaimJoined
import GoSem.ClaimMapViews
import Derived.JoinedTies
import Derived.KernelRfl
namespace Go.Proofs.Ytemcooggkcneiaa
/- THE CELL 'sum', in the pinned program and in every row, IS THE sha256 OF THE DUMP (.gsa) THAT YtemcooggkcneiaaProg.lean LOADS. Nothing in Lean hashes anything: it is a label: what it is worth is what the hold of that sum in a sandbox is worth. -/
noncomputable def Try.pinned : Pinned := { name := "ytemcooggkcneiaa", sum := "83aedb58d8e99812f2413dca031b86ad23be694a169fcbeae3cd89838ff305a9", checked := Try.checked }
namespace Rows
def none {H : Type} : Left H := { results := [], args := [] }

/-- 'guerdonlaw16.DepsOrder': WHATEVER THE INPUT: true; the input reads as it did. -/
def depsOrderSpec : ChangeSpec := { name := "depsOrder", fn := fun _ => fun
  | [d] => { results := [.lit (.bool true)], args := [d] }
  | _ => none }
def depsOrderRow : OpenClaim := { program := "ytemcooggkcneiaa", sum := "83aedb58d8e99812f2413dca031b86ad23be694a169fcbeae3cd89838ff305a9", func := "guerdon/guerdonlaw16.DepsOrder", spec := "depsOrder", unfollowed := true, recurses := true, apart := false }
def DepsOrderSaid : Prop := depsOrderRow.holds Try.pinned (OpenSpec.ofChange depsOrderSpec)

/-- ITS FALSE NEIGHBOUR: 'it returns false'. Refute it at one input. -/
def depsOrderWrong : ChangeSpec := { name := "depsOrder", fn := fun _ => fun
  | [d] => { results := [.lit (.bool false)], args := [d] }
  | _ => none }
def DepsOrderWrongFalsely : Prop := depsOrderRow.holds Try.pinned (OpenSpec.ofChange depsOrderWrong)

/-- 'guerdonlaw16.DepsCycle': WHATEVER THE INPUT: true; the input reads as it did. -/
def depsCycleSpec : ChangeSpec := { name := "depsCycle", fn := fun _ => fun
  | [d] => { results := [.lit (.bool true)], args := [d] }
  | _ => none }
def depsCycleRow : OpenClaim := { program := "ytemcooggkcneiaa", sum := "83aedb58d8e99812f2413dca031b86ad23be694a169fcbeae3cd89838ff305a9", func := "guerdon/guerdonlaw16.DepsCycle", spec := "depsCycle", unfollowed := true, recurses := true, apart := false }
def DepsCycleSaid : Prop := depsCycleRow.holds Try.pinned (OpenSpec.ofChange depsCycleSpec)

/-- ITS FALSE NEIGHBOUR: 'it returns false'. Refute it at one input. -/
def depsCycleWrong : ChangeSpec := { name := "depsCycle", fn := fun _ => fun
  | [d] => { results := [.lit (.bool false)], args := [d] }
  | _ => none }
def DepsCycleWrongFalsely : Prop := depsCycleRow.holds Try.pinned (OpenSpec.ofChange depsCycleWrong)

/-- 'guerdonlaw16.DepsTopological': WHATEVER THE INPUT: true; the input reads as it did. -/
def depsTopologicalSpec : ChangeSpec := { name := "depsTopological", fn := fun _ => fun
  | [d] => { results := [.lit (.bool true)], args := [d] }
  | _ => none }
def depsTopologicalRow : OpenClaim := { program := "ytemcooggkcneiaa", sum := "83aedb58d8e99812f2413dca031b86ad23be694a169fcbeae3cd89838ff305a9", func := "guerdon/guerdonlaw16.DepsTopological", spec := "depsTopological", unfollowed := true, recurses := true, apart := false }
def DepsTopologicalSaid : Prop := depsTopologicalRow.holds Try.pinned (OpenSpec.ofChange depsTopologicalSpec)

/-- ITS FALSE NEIGHBOUR: 'it returns false'. Refute it at one input. -/
def depsTopologicalWrong : ChangeSpec := { name := "depsTopological", fn := fun _ => fun
  | [d] => { results := [.lit (.bool false)], args := [d] }
  | _ => none }
def DepsTopologicalWrongFalsely : Prop := depsTopologicalRow.holds Try.pinned (OpenSpec.ofChange depsTopologicalWrong)

/-- 'guerdonlaw16.DepsDependencies': WHATEVER THE INPUT: true; the input reads as it did. -/
def depsDependenciesSpec : ChangeSpec := { name := "depsDependencies", fn := fun _ => fun
  | [d1, d2] => { results := [.lit (.bool true)], args := [d1, d2] }
  | _ => none }
def depsDependenciesRow : OpenClaim := { program := "ytemcooggkcneiaa", sum := "83aedb58d8e99812f2413dca031b86ad23be694a169fcbeae3cd89838ff305a9", func := "guerdon/guerdonlaw16.DepsDependencies", spec := "depsDependencies", unfollowed := true, recurses := true, apart := false }
def DepsDependenciesSaid : Prop := depsDependenciesRow.holds Try.pinned (OpenSpec.ofChange depsDependenciesSpec)

/-- ITS FALSE NEIGHBOUR: 'it returns false'. Refute it at one input. -/
def depsDependenciesWrong : ChangeSpec := { name := "depsDependencies", fn := fun _ => fun
  | [d1, d2] => { results := [.lit (.bool false)], args := [d1, d2] }
  | _ => none }
def DepsDependenciesWrongFalsely : Prop := depsDependenciesRow.holds Try.pinned (OpenSpec.ofChange depsDependenciesWrong)

/- THE SECOND FORM. 'bulk': how many values and letters a reading holds, each counted each time it is reached (what is shared counts as often as it is met; a slice's spare places count too). A statement '..UptoSaid' is the law's where the arguments, and the package variables that the reading takes, are together of bulk at most 1048576: NARROWER than '..Said'. Prove '..Said' where nothing that the law and all that it calls make is longer than what came in: it says more and counts as full. Else prove '..UptoSaid'. A law counts once. -/
mutual
def uptoBulk {H : Type} : DataW H → Nat
  | .lit (.string bytes) => bytes.length + 1
  | .lit _ => 1
  | .nil => 1
  | .ptr d => uptoBulk d + 1
  | .slice elems spare => uptoBulkAll elems + uptoBulkAll spare + 1
  | .agg parts => uptoBulkAll parts + 1
  | .iface _ d => uptoBulk d + 1
  | .map entries => uptoBulkEntries entries + 1
  | .held _ => 1
def uptoBulkAll {H : Type} : List (DataW H) → Nat
  | [] => 0
  | d :: r => uptoBulk d + uptoBulkAll r
def uptoBulkEntries {H : Type} : List (Lit × DataW H) → Nat
  | [] => 0
  | x :: r => uptoBulkEntry x + uptoBulkEntries r
def uptoBulkEntry {H : Type} : Lit × DataW H → Nat
  | (.string bytes, d) => bytes.length + uptoBulk d + 1
  | (_, d) => uptoBulk d + 1
 end
def uptoSmall : (H : Type) → List (DataW H) → Bool := fun _ ds => decide (uptoBulkAll ds ≤ 1048576)
def OpenSpec.upto (s : _root_.Go.ChangeSpec) : _root_.Go.OpenSpec := { _root_.Go.OpenSpec.ofChange s with cond := some uptoSmall }

/-- 'guerdonlaw16.DepsOrder', WHERE WHAT IT READS IS OF BULK AT MOST 1048576: true; the input reads as it did. -/
def depsOrderUptoRow : OpenClaim := { program := "ytemcooggkcneiaa", sum := "83aedb58d8e99812f2413dca031b86ad23be694a169fcbeae3cd89838ff305a9", func := "guerdon/guerdonlaw16.DepsOrder", spec := "depsOrder", unfollowed := true, recurses := true, apart := false, narrowed := true }
def DepsOrderUptoSaid : Prop := depsOrderUptoRow.holds Try.pinned (OpenSpec.upto depsOrderSpec)

/-- 'guerdonlaw16.DepsCycle', WHERE WHAT IT READS IS OF BULK AT MOST 1048576: true; the input reads as it did. -/
def depsCycleUptoRow : OpenClaim := { program := "ytemcooggkcneiaa", sum := "83aedb58d8e99812f2413dca031b86ad23be694a169fcbeae3cd89838ff305a9", func := "guerdon/guerdonlaw16.DepsCycle", spec := "depsCycle", unfollowed := true, recurses := true, apart := false, narrowed := true }
def DepsCycleUptoSaid : Prop := depsCycleUptoRow.holds Try.pinned (OpenSpec.upto depsCycleSpec)

/-- 'guerdonlaw16.DepsTopological', WHERE WHAT IT READS IS OF BULK AT MOST 1048576: true; the input reads as it did. -/
def depsTopologicalUptoRow : OpenClaim := { program := "ytemcooggkcneiaa", sum := "83aedb58d8e99812f2413dca031b86ad23be694a169fcbeae3cd89838ff305a9", func := "guerdon/guerdonlaw16.DepsTopological", spec := "depsTopological", unfollowed := true, recurses := true, apart := false, narrowed := true }
def DepsTopologicalUptoSaid : Prop := depsTopologicalUptoRow.holds Try.pinned (OpenSpec.upto depsTopologicalSpec)

/-- 'guerdonlaw16.DepsDependencies', WHERE WHAT IT READS IS OF BULK AT MOST 1048576: true; the input reads as it did. -/
def depsDependenciesUptoRow : OpenClaim := { program := "ytemcooggkcneiaa", sum := "83aedb58d8e99812f2413dca031b86ad23be694a169fcbeae3cd89838ff305a9", func := "guerdon/guerdonlaw16.DepsDependencies", spec := "depsDependencies", unfollowed := true, recurses := true, apart := false, narrowed := true }
def DepsDependenciesUptoSaid : Prop := depsDependenciesUptoRow.holds Try.pinned (OpenSpec.upto depsDependenciesSpec)

end Rows
end Go.Proofs.Ytemcooggkcneiaa
