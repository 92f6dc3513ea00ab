/-
  No cell of these rows narrows 'for every input' (looked for: loops, veiled, ifaces, maps, wideKeys, modest, calm, conditions, laid).
  DERIVED. THE GIVEN ROWS OF THIS SEAT. 6 by the template 'for every input the law returns true; each argument reads behind the call as it read before'; 0 by the template 'total and deterministic' (their statements: YthfhekohlmboiaaTotals.lean).
  GIVEN WITH THE SEED: the statements are not yours to turn. If you find one false, say at which input.
  Laid BY PROGRAM, IN A SANDBOX (cutbox-rows.mjs): the forced cells as the released guide's own fill.sh prints them over the translation 38034011d9441c5d… (all of the seat's roots in one cut). By AI agents, Wed Nov 11 2026. No macro, syntax, notation, axiom, sorry.
-/
import Derived.Test.YthfhekohlmboiaaChecked
import GoSem.Claim
import GoSem.ClaimJoined
import GoSem.ClaimMapViews
import Derived.JoinedTies
import Derived.KernelRfl
namespace Go.Proofs.Ythfhekohlmboiaa
/- THE CELL 'sum', in the pinned program and in every row, IS THE sha256 OF THE DUMP (.gsa) THAT YthfhekohlmboiaaProg.lean LOADS. Nothing in Lean hashes anything: it is a label: what it is worth is what the hold of that sum in a sandbox is worth. -/
noncomputable def Try.pinned : Pinned := { name := "ythfhekohlmboiaa", sum := "38034011d9441c5d169f095185f48fa04940267b79254d78703175eae218923c", checked := Try.checked }
namespace Rows
def none {H : Type} : Left H := { results := [], args := [] }

/-- 'guerdonlaw15.EffectiveLaw': WHATEVER THE INPUT: true; the input reads as it did. -/
def effectiveLawSpec : ChangeSpec := { name := "effectiveLaw", fn := fun _ => fun
  | [d1, d2] => { results := [.lit (.bool true)], args := [d1, d2] }
  | _ => none }
def effectiveLawRow : OpenClaim := { program := "ythfhekohlmboiaa", sum := "38034011d9441c5d169f095185f48fa04940267b79254d78703175eae218923c", func := "guerdon/guerdonlaw15.EffectiveLaw", spec := "effectiveLaw", unfollowed := true, recurses := true, apart := false }
def EffectiveLawSaid : Prop := effectiveLawRow.holds Try.pinned (OpenSpec.ofChange effectiveLawSpec)

/-- ITS FALSE NEIGHBOUR: 'it returns false'. Refute it at one input. -/
def effectiveLawWrong : ChangeSpec := { name := "effectiveLaw", fn := fun _ => fun
  | [d1, d2] => { results := [.lit (.bool false)], args := [d1, d2] }
  | _ => none }
def EffectiveLawWrongFalsely : Prop := effectiveLawRow.holds Try.pinned (OpenSpec.ofChange effectiveLawWrong)

/-- 'guerdonlaw15.EffectiveStable': WHATEVER THE INPUT: true; the input reads as it did. -/
def effectiveStableSpec : ChangeSpec := { name := "effectiveStable", fn := fun _ => fun
  | [d1, d2, d3, d4] => { results := [.lit (.bool true)], args := [d1, d2, d3, d4] }
  | _ => none }
def effectiveStableRow : OpenClaim := { program := "ythfhekohlmboiaa", sum := "38034011d9441c5d169f095185f48fa04940267b79254d78703175eae218923c", func := "guerdon/guerdonlaw15.EffectiveStable", spec := "effectiveStable", unfollowed := true, recurses := true, apart := false }
def EffectiveStableSaid : Prop := effectiveStableRow.holds Try.pinned (OpenSpec.ofChange effectiveStableSpec)

/-- ITS FALSE NEIGHBOUR: 'it returns false'. Refute it at one input. -/
def effectiveStableWrong : ChangeSpec := { name := "effectiveStable", fn := fun _ => fun
  | [d1, d2, d3, d4] => { results := [.lit (.bool false)], args := [d1, d2, d3, d4] }
  | _ => none }
def EffectiveStableWrongFalsely : Prop := effectiveStableRow.holds Try.pinned (OpenSpec.ofChange effectiveStableWrong)

/-- 'guerdonlaw15.EffectiveIdempotent': WHATEVER THE INPUT: true; the input reads as it did. -/
def effectiveIdempotentSpec : ChangeSpec := { name := "effectiveIdempotent", fn := fun _ => fun
  | [d1, d2, d3] => { results := [.lit (.bool true)], args := [d1, d2, d3] }
  | _ => none }
def effectiveIdempotentRow : OpenClaim := { program := "ythfhekohlmboiaa", sum := "38034011d9441c5d169f095185f48fa04940267b79254d78703175eae218923c", func := "guerdon/guerdonlaw15.EffectiveIdempotent", spec := "effectiveIdempotent", unfollowed := true, recurses := true, apart := false }
def EffectiveIdempotentSaid : Prop := effectiveIdempotentRow.holds Try.pinned (OpenSpec.ofChange effectiveIdempotentSpec)

/-- ITS FALSE NEIGHBOUR: 'it returns false'. Refute it at one input. -/
def effectiveIdempotentWrong : ChangeSpec := { name := "effectiveIdempotent", fn := fun _ => fun
  | [d1, d2, d3] => { results := [.lit (.bool false)], args := [d1, d2, d3] }
  | _ => none }
def EffectiveIdempotentWrongFalsely : Prop := effectiveIdempotentRow.holds Try.pinned (OpenSpec.ofChange effectiveIdempotentWrong)

/-- 'guerdonlaw15.EffectiveOwn': WHATEVER THE INPUT: true; the input reads as it did. -/
def effectiveOwnSpec : ChangeSpec := { name := "effectiveOwn", fn := fun _ => fun
  | [d1, d2] => { results := [.lit (.bool true)], args := [d1, d2] }
  | _ => none }
def effectiveOwnRow : OpenClaim := { program := "ythfhekohlmboiaa", sum := "38034011d9441c5d169f095185f48fa04940267b79254d78703175eae218923c", func := "guerdon/guerdonlaw15.EffectiveOwn", spec := "effectiveOwn", unfollowed := true, recurses := true, apart := false }
def EffectiveOwnSaid : Prop := effectiveOwnRow.holds Try.pinned (OpenSpec.ofChange effectiveOwnSpec)

/-- ITS FALSE NEIGHBOUR: 'it returns false'. Refute it at one input. -/
def effectiveOwnWrong : ChangeSpec := { name := "effectiveOwn", fn := fun _ => fun
  | [d1, d2] => { results := [.lit (.bool false)], args := [d1, d2] }
  | _ => none }
def EffectiveOwnWrongFalsely : Prop := effectiveOwnRow.holds Try.pinned (OpenSpec.ofChange effectiveOwnWrong)

/-- 'guerdonlaw15.EffectiveTree': WHATEVER THE INPUT: true; the input reads as it did. -/
def effectiveTreeSpec : ChangeSpec := { name := "effectiveTree", fn := fun _ => fun
  | [d1, d2, d3] => { results := [.lit (.bool true)], args := [d1, d2, d3] }
  | _ => none }
def effectiveTreeRow : OpenClaim := { program := "ythfhekohlmboiaa", sum := "38034011d9441c5d169f095185f48fa04940267b79254d78703175eae218923c", func := "guerdon/guerdonlaw15.EffectiveTree", spec := "effectiveTree", unfollowed := true, recurses := true, apart := false }
def EffectiveTreeSaid : Prop := effectiveTreeRow.holds Try.pinned (OpenSpec.ofChange effectiveTreeSpec)

/-- ITS FALSE NEIGHBOUR: 'it returns false'. Refute it at one input. -/
def effectiveTreeWrong : ChangeSpec := { name := "effectiveTree", fn := fun _ => fun
  | [d1, d2, d3] => { results := [.lit (.bool false)], args := [d1, d2, d3] }
  | _ => none }
def EffectiveTreeWrongFalsely : Prop := effectiveTreeRow.holds Try.pinned (OpenSpec.ofChange effectiveTreeWrong)

/-- 'guerdonlaw15.EffectiveRestricted': WHATEVER THE INPUT: true; the input reads as it did. -/
def effectiveRestrictedSpec : ChangeSpec := { name := "effectiveRestricted", fn := fun _ => fun
  | [d1, d2, d3] => { results := [.lit (.bool true)], args := [d1, d2, d3] }
  | _ => none }
def effectiveRestrictedRow : OpenClaim := { program := "ythfhekohlmboiaa", sum := "38034011d9441c5d169f095185f48fa04940267b79254d78703175eae218923c", func := "guerdon/guerdonlaw15.EffectiveRestricted", spec := "effectiveRestricted", unfollowed := true, recurses := true, apart := false }
def EffectiveRestrictedSaid : Prop := effectiveRestrictedRow.holds Try.pinned (OpenSpec.ofChange effectiveRestrictedSpec)

/-- ITS FALSE NEIGHBOUR: 'it returns false'. Refute it at one input. -/
def effectiveRestrictedWrong : ChangeSpec := { name := "effectiveRestricted", fn := fun _ => fun
  | [d1, d2, d3] => { results := [.lit (.bool false)], args := [d1, d2, d3] }
  | _ => none }
def EffectiveRestrictedWrongFalsely : Prop := effectiveRestrictedRow.holds Try.pinned (OpenSpec.ofChange effectiveRestrictedWrong)

/- THE SECOND FORM. 'bulk': how many values and letters a reading holds, each counted each time it is reached (what is shared counts as often as it is met; a slice's spare places count too). A statement '..UptoSaid' is the law's where the arguments, and the package variables that the reading takes, are together of bulk at most 1048576: NARROWER than '..Said'. Prove '..Said' where nothing that the law and all that it calls make is longer than what came in: it says more and counts as full. Else prove '..UptoSaid'. A law counts once. -/
mutual
def uptoBulk {H : Type} : DataW H → Nat
  | .lit (.string bytes) => bytes.length + 1
  | .lit _ => 1
  | .nil => 1
  | .ptr d => uptoBulk d + 1
  | .slice elems spare => uptoBulkAll elems + uptoBulkAll spare + 1
  | .agg parts => uptoBulkAll parts + 1
  | .iface _ d => uptoBulk d + 1
  | .map entries => uptoBulkEntries entries + 1
  | .held _ => 1
def uptoBulkAll {H : Type} : List (DataW H) → Nat
  | [] => 0
  | d :: r => uptoBulk d + uptoBulkAll r
def uptoBulkEntries {H : Type} : List (Lit × DataW H) → Nat
  | [] => 0
  | x :: r => uptoBulkEntry x + uptoBulkEntries r
def uptoBulkEntry {H : Type} : Lit × DataW H → Nat
  | (.string bytes, d) => bytes.length + uptoBulk d + 1
  | (_, d) => uptoBulk d + 1
 end
def uptoSmall : (H : Type) → List (DataW H) → Bool := fun _ ds => decide (uptoBulkAll ds ≤ 1048576)
def OpenSpec.upto (s : _root_.Go.ChangeSpec) : _root_.Go.OpenSpec := { _root_.Go.OpenSpec.ofChange s with cond := some uptoSmall }

/-- 'guerdonlaw15.EffectiveLaw', WHERE WHAT IT READS IS OF BULK AT MOST 1048576: true; the input reads as it did. -/
def effectiveLawUptoRow : OpenClaim := { program := "ythfhekohlmboiaa", sum := "38034011d9441c5d169f095185f48fa04940267b79254d78703175eae218923c", func := "guerdon/guerdonlaw15.EffectiveLaw", spec := "effectiveLaw", unfollowed := true, recurses := true, apart := false, narrowed := true }
def EffectiveLawUptoSaid : Prop := effectiveLawUptoRow.holds Try.pinned (OpenSpec.upto effectiveLawSpec)

/-- 'guerdonlaw15.EffectiveStable', WHERE WHAT IT READS IS OF BULK AT MOST 1048576: true; the input reads as it did. -/
def effectiveStableUptoRow : OpenClaim := { program := "ythfhekohlmboiaa", sum := "38034011d9441c5d169f095185f48fa04940267b79254d78703175eae218923c", func := "guerdon/guerdonlaw15.EffectiveStable", spec := "effectiveStable", unfollowed := true, recurses := true, apart := false, narrowed := true }
def EffectiveStableUptoSaid : Prop := effectiveStableUptoRow.holds Try.pinned (OpenSpec.upto effectiveStableSpec)

/-- 'guerdonlaw15.EffectiveIdempotent', WHERE WHAT IT READS IS OF BULK AT MOST 1048576: true; the input reads as it did. -/
def effectiveIdempotentUptoRow : OpenClaim := { program := "ythfhekohlmboiaa", sum := "38034011d9441c5d169f095185f48fa04940267b79254d78703175eae218923c", func := "guerdon/guerdonlaw15.EffectiveIdempotent", spec := "effectiveIdempotent", unfollowed := true, recurses := true, apart := false, narrowed := true }
def EffectiveIdempotentUptoSaid : Prop := effectiveIdempotentUptoRow.holds Try.pinned (OpenSpec.upto effectiveIdempotentSpec)

/-- 'guerdonlaw15.EffectiveOwn', WHERE WHAT IT READS IS OF BULK AT MOST 1048576: true; the input reads as it did. -/
def effectiveOwnUptoRow : OpenClaim := { program := "ythfhekohlmboiaa", sum := "38034011d9441c5d169f095185f48fa04940267b79254d78703175eae218923c", func := "guerdon/guerdonlaw15.EffectiveOwn", spec := "effectiveOwn", unfollowed := true, recurses := true, apart := false, narrowed := true }
def EffectiveOwnUptoSaid : Prop := effectiveOwnUptoRow.holds Try.pinned (OpenSpec.upto effectiveOwnSpec)

/-- 'guerdonlaw15.EffectiveTree', WHERE WHAT IT READS IS OF BULK AT MOST 1048576: true; the input reads as it did. -/
def effectiveTreeUptoRow : OpenClaim := { program := "ythfhekohlmboiaa", sum := "38034011d9441c5d169f095185f48fa04940267b79254d78703175eae218923c", func := "guerdon/guerdonlaw15.EffectiveTree", spec := "effectiveTree", unfollowed := true, recurses := true, apart := false, narrowed := true }
def EffectiveTreeUptoSaid : Prop := effectiveTreeUptoRow.holds Try.pinned (OpenSpec.upto effectiveTreeSpec)

/-- 'guerdonlaw15.EffectiveRestricted', WHERE WHAT IT READS IS OF BULK AT MOST 1048576: true; the input reads as it did. -/
def effectiveRestrictedUptoRow : OpenClaim := { program := "ythfhekohlmboiaa", sum := "38034011d9441c5d169f095185f48fa04940267b79254d78703175eae218923c", func := "guerdon/guerdonlaw15.EffectiveRestricted", spec := "effectiveRestricted", unfollowed := true, recurses := true, apart := false, narrowed := true }
def EffectiveRestrictedUptoSaid : Prop := effectiveRestrictedUptoRow.holds Try.pinned (OpenSpec.upto effectiveRestrictedSpec)

end Rows
end Go.Proofs.Ythfhekohlmboiaa
