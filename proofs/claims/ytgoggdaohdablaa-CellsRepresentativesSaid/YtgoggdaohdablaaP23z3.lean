/- Whatever the input: the law guerdonlaw23.CellsRepresentatives returns true, and each argument reads behind the call as it read before. No conditions. -/
import Derived.Test.YtgoggdaohdablaaP23f
import Derived.Test.YtgoggdaohdablaaRows
import Derived.Test.YtgoggdaohdablaaEng12
import Derived.WalkKit
import Derived.ProofKit
import Derived.OpenShut
import Derived.ShutString
import Derived.ChangeOld
import Derived.Below
namespace Go.Proofs.Ytgoggdaohdablaa
open Go.ChangeShapes Go.WideShapes Go.ChangeAt Go.RowKit Go.Eng
open Go.ChangeMaps (open_string shut_string)
set_option linter.unusedVariables false

theorem opens_CellsRepresentatives_23 : Opens Try.prog 23 (rSlice rEnum) (fun xs => ∀ x ∈ xs, (fun d => (fun s => s.length ≤ maxLen) d.1 ∧ (fun xs => ∀ x ∈ xs, (fun s => s.length ≤ maxLen) x) d.2) x) := (opens_slice Try.underlying23 (by kernel_rfl) rfl (opens_struct (fs := [⟨ "Name", 9, 0, false, "", "", 0⟩, ⟨ "Members", 46, 1, false, "", "", 16⟩]) Try.underlying48 (by kernel_rfl) (opensF_cons rfl (by kernel_rfl) (opens_str Try.underlying9) (opensF_last rfl (by kernel_rfl) (opens_slice Try.underlying46 (by kernel_rfl) rfl (opens_str Try.underlying9))) rfl)))
theorem opens_CellsRepresentatives_32 : Opens Try.prog 32 (rSlice (rInt .i64)) (fun xs => ∀ x ∈ xs, InK .i64 x) := (opens_slice Try.underlying32 (by kernel_rfl) rfl (opens_int Try.underlying3))
theorem opens_CellsRepresentatives_36 : Opens Try.prog 36 rType (fun d => InK .i64 d.1 ∧ InK .i64 d.2) := (opens_struct (fs := [⟨ "Kind", 3, 0, false, "", "", 0⟩, ⟨ "Enum", 3, 1, false, "", "", 8⟩]) Try.underlying36 (by kernel_rfl) (opensF_cons rfl (by kernel_rfl) (opens_int Try.underlying3) (opensF_last rfl (by kernel_rfl) (opens_int Try.underlying3)) rfl))
theorem own_CellsRepresentatives : ownKnob Try.prog.godebug = none := by kernel_rfl
theorem laidOut_CellsRepresentatives : laidOutB Try.prog = true := by kernel_rfl
set_option maxRecDepth 100000 in
theorem lifted_CellsRepresentatives (os : Os) (started : os.Started) (H : Type) (enc : TypeId × Value → H) :
    ReturnsInHanded {} Try.checked os 5 .any (Rows.cellsRepresentativesSpec.pre6 enc Try.prog Try.f5 Rows.cellsRepresentativesRow.domain false) (Rows.cellsRepresentativesSpec.post enc Try.prog Try.f5 false true false false) := by
  refine returnsInHanded_of_change (C := Try.checked) own_CellsRepresentatives started (by kernel_rfl) Try.func5
    (ChangeSpec.witness6 (enc := enc) (C := Try.checked) false ⟨#[], #[.agg #[.int .i64 0, .int .i64 0], .slice none 0 0, .slice none 0 0, .int .i64 0], []⟩ 8 (by kernel_rfl) (by kernel_rfl) (by kernel_rfl) (by kernel_rfl)) ?_
  intro W base args ds gs before hval0 hW hcnd _
  have hval : ∀ (j : Nat) t v, Try.f5.params[j]? = some t → args[j]? = some v → Value.okWide Try.prog W .any base t v := hval0
  have hW' := hW
  obtain ⟨p, q, hA0, hV, rfl, hfz, hnd⟩ := hW
  have hA : DataW.TrodAll enc Try.prog W 0 (fun _ => true) true Try.f5.params.toList args.toList ds p := hA0
  rw [Try.params5] at hA hval
  obtain ⟨v0, vs0, d0, ds0, p0, q0, hargs, rfl, rfl, h0, r0⟩ := trodAll_cons hA
  obtain ⟨v1, vs1, d1, ds1, p1, q1, rfl, rfl, rfl, h1, r1⟩ := trodAll_cons r0
  obtain ⟨v2, vs2, d2, ds2, p2, q2, rfl, rfl, rfl, h2, r2⟩ := trodAll_cons r1
  obtain ⟨v3, vs3, d3, ds3, p3, q3, rfl, rfl, rfl, h3, r3⟩ := trodAll_cons r2
  obtain ⟨rfl, rfl, rfl⟩ := trodAll_nil r3
  obtain rfl : args = #[v0, v1, v2, v3] := by cases args; simp_all
  obtain ⟨rfl, rfl⟩ := trodVars_none hV
  have k0 := h0
  have lt0 : ∀ x ∈ p0, x.block < W.heap.size := by obtain ⟨m, hm⟩ := k0; exact DataW.trod_lt m _ _ _ hm
  obtain ⟨_, rfl, _⟩ := okWide_struct Try.underlying36 (hval 0 36 v0 rfl rfl)
  obtain ⟨x0, X0, f0⟩ := opens_CellsRepresentatives_36.arg rfl h0
  have k1 := h1
  have lt1 : ∀ x ∈ p1, x.block < W.heap.size := by obtain ⟨m, hm⟩ := k1; exact DataW.trod_lt m _ _ _ hm
  obtain ⟨_, _, _, rfl⟩ := okWide_slice Try.underlying23 (hval 1 23 v1 rfl rfl)
  obtain ⟨x1, X1, f1⟩ := opens_CellsRepresentatives_23.arg rfl h1
  have k2 := h2
  have lt2 : ∀ x ∈ p2, x.block < W.heap.size := by obtain ⟨m, hm⟩ := k2; exact DataW.trod_lt m _ _ _ hm
  obtain ⟨_, _, _, rfl⟩ := okWide_slice Try.underlying32 (hval 2 32 v2 rfl rfl)
  obtain ⟨x2, X2, f2⟩ := opens_CellsRepresentatives_32.arg rfl h2
  obtain ⟨a3, rfl, rfl, rfl, w3⟩ := open_int Try.underlying3 (hval 3 3 v3 rfl rfl) h3
  clear hA0 hval0
  refine ((law_reps x0 x1 x2 a3).calls W (Old W) _ (fun b h => h) ⟨_, _, rfl, X0, _, _, rfl, X1, _, _, rfl, X2, _, _, rfl, rfl, rfl⟩).mono fun e W' hR => ?_
  obtain ⟨u, rfl, bel, hu⟩ := hR
  have hu : u = .bool true := hu
  subst hu
  exact ⟨_, rfl, _, _, _, [], _, [], hW', trodAll_mk1 (shut_bool Try.underlying4 _), (trodAll_cons_mk (Below.trod laidOut_CellsRepresentatives (by kernel_rfl) (of_decide_eq_true (by kernel_rfl)) k0 bel lt0) (trodAll_cons_mk (Below.trod laidOut_CellsRepresentatives (by kernel_rfl) (of_decide_eq_true (by kernel_rfl)) k1 bel lt1) (trodAll_cons_mk (Below.trod laidOut_CellsRepresentatives (by kernel_rfl) (of_decide_eq_true (by kernel_rfl)) k2 bel lt2) (trodAll_cons_mk (shut_int Try.underlying3 w3) trodAll_mk0)))), rfl, bel.frame _, fun h => by cases h⟩

theorem over_CellsRepresentatives : Rows.cellsRepresentativesRow.holds Try.pinned (OpenSpec.ofChange Rows.cellsRepresentativesSpec) :=
  OpenClaim.holds_of_wide 5 Try.f5 rfl rfl rfl rfl rfl rfl rfl ⟨rfl, rfl, rfl, rfl, rfl⟩ rfl rfl rfl rfl rfl (by kernel_rfl) Try.func5 (by kernel_rfl)
    (of_decide_eq_true (by kernel_rfl)) (by unfold Func.isWrapper; first | (rw [if_pos (by decide +kernel)]; kernel_rfl) | (rw [if_neg (by decide +kernel)]; exact ⟨rfl, rfl⟩))
    (fun os started H enc _ => lifted_CellsRepresentatives os started H enc)

/-- THE STATEMENT -/
theorem provedCellsRepresentatives : Rows.CellsRepresentativesSaid := over_CellsRepresentatives
#print axioms provedCellsRepresentatives
end Go.Proofs.Ytgoggdaohdablaa
