/- Whatever the input: the law guerdonlaw23.CellsCuts returns true, and each argument reads behind the call as it read before. No conditions. -/
import Derived.Test.YtgoggdaohdablaaP23f
import Derived.Test.YtgoggdaohdablaaRows
import Derived.Test.YtgoggdaohdablaaEng12
import Derived.WalkKit
import Derived.ProofKit
import Derived.OpenShut
import Derived.ShutString
import Derived.ChangeOld
import Derived.Below
namespace Go.Proofs.Ytgoggdaohdablaa
open Go.ChangeShapes Go.WideShapes Go.ChangeAt Go.RowKit Go.Eng
open Go.ChangeMaps (open_string shut_string)
set_option linter.unusedVariables false

theorem opens_CellsCuts_30 : Opens Try.prog 30 (rSlice (rSlice rNode)) (fun xs => ∀ x ∈ xs, (fun xs => ∀ x ∈ xs, (fun d => InK .i64 d.1 ∧ InK .i64 d.2) x) x) := (opens_slice Try.underlying30 (by kernel_rfl) rfl (opens_slice Try.underlying22 (by kernel_rfl) rfl (opens_struct (fs := [⟨ "Op", 3, 0, false, "", "", 0⟩, ⟨ "N", 3, 1, false, "", "", 8⟩]) Try.underlying50 (by kernel_rfl) (opensF_cons rfl (by kernel_rfl) (opens_int Try.underlying3) (opensF_last rfl (by kernel_rfl) (opens_int Try.underlying3)) rfl))))
theorem own_CellsCuts : ownKnob Try.prog.godebug = none := by kernel_rfl
theorem laidOut_CellsCuts : laidOutB Try.prog = true := by kernel_rfl
set_option maxRecDepth 100000 in
theorem lifted_CellsCuts (os : Os) (started : os.Started) (H : Type) (enc : TypeId × Value → H) :
    ReturnsInHanded {} Try.checked os 4 .any (Rows.cellsCutsSpec.pre6 enc Try.prog Try.f4 Rows.cellsCutsRow.domain false) (Rows.cellsCutsSpec.post enc Try.prog Try.f4 false true false false) := by
  refine returnsInHanded_of_change (C := Try.checked) own_CellsCuts started (by kernel_rfl) Try.func4
    (ChangeSpec.witness6 (enc := enc) (C := Try.checked) false ⟨#[], #[.slice none 0 0, .int .i64 0], []⟩ 8 (by kernel_rfl) (by kernel_rfl) (by kernel_rfl) (by kernel_rfl)) ?_
  intro W base args ds gs before hval0 hW hcnd _
  have hval : ∀ (j : Nat) t v, Try.f4.params[j]? = some t → args[j]? = some v → Value.okWide Try.prog W .any base t v := hval0
  have hW' := hW
  obtain ⟨p, q, hA0, hV, rfl, hfz, hnd⟩ := hW
  have hA : DataW.TrodAll enc Try.prog W 0 (fun _ => true) true Try.f4.params.toList args.toList ds p := hA0
  rw [Try.params4] at hA hval
  obtain ⟨v0, vs0, d0, ds0, p0, q0, hargs, rfl, rfl, h0, r0⟩ := trodAll_cons hA
  obtain ⟨v1, vs1, d1, ds1, p1, q1, rfl, rfl, rfl, h1, r1⟩ := trodAll_cons r0
  obtain ⟨rfl, rfl, rfl⟩ := trodAll_nil r1
  obtain rfl : args = #[v0, v1] := by cases args; simp_all
  obtain ⟨rfl, rfl⟩ := trodVars_none hV
  have k0 := h0
  have lt0 : ∀ x ∈ p0, x.block < W.heap.size := by obtain ⟨m, hm⟩ := k0; exact DataW.trod_lt m _ _ _ hm
  obtain ⟨_, _, _, rfl⟩ := okWide_slice Try.underlying30 (hval 0 30 v0 rfl rfl)
  obtain ⟨x0, X0, f0⟩ := opens_CellsCuts_30.arg rfl h0
  obtain ⟨a1, rfl, rfl, rfl, w1⟩ := open_int Try.underlying3 (hval 1 3 v1 rfl rfl) h1
  clear hA0 hval0
  refine ((law_cuts x0 a1 (fun e he d hd => (f0 e he d hd).2.2) (fun e he d hd => (f0 e he d hd).2.1)).calls W (Old W) _ (fun b h => h) ⟨_, _, rfl, X0, _, _, rfl, rfl, rfl⟩).mono fun e W' hR => ?_
  obtain ⟨u, rfl, bel, hu⟩ := hR
  have hu : u = .bool true := hu
  subst hu
  exact ⟨_, rfl, _, _, _, [], _, [], hW', trodAll_mk1 (shut_bool Try.underlying4 _), (trodAll_cons_mk (Below.trod laidOut_CellsCuts (by kernel_rfl) (of_decide_eq_true (by kernel_rfl)) k0 bel lt0) (trodAll_cons_mk (shut_int Try.underlying3 w1) trodAll_mk0)), rfl, bel.frame _, fun h => by cases h⟩

theorem over_CellsCuts : Rows.cellsCutsRow.holds Try.pinned (OpenSpec.ofChange Rows.cellsCutsSpec) :=
  OpenClaim.holds_of_wide 4 Try.f4 rfl rfl rfl rfl rfl rfl rfl ⟨rfl, rfl, rfl, rfl, rfl⟩ rfl rfl rfl rfl rfl (by kernel_rfl) Try.func4 (by kernel_rfl)
    (of_decide_eq_true (by kernel_rfl)) (by unfold Func.isWrapper; first | (rw [if_pos (by decide +kernel)]; kernel_rfl) | (rw [if_neg (by decide +kernel)]; exact ⟨rfl, rfl⟩))
    (fun os started H enc _ => lifted_CellsCuts os started H enc)

/-- THE STATEMENT -/
theorem provedCellsCuts : Rows.CellsCutsSaid := over_CellsCuts
#print axioms provedCellsCuts
end Go.Proofs.Ytgoggdaohdablaa
