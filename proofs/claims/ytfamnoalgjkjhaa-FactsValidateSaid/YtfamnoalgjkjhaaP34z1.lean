/- Whatever the input: the law guerdonlaw34.FactsValidate returns true, and each argument reads behind the call as it read before. No conditions. -/
import Derived.Test.YtfamnoalgjkjhaaP34w
import Derived.Test.YtfamnoalgjkjhaaRows
import Derived.Test.YtfamnoalgjkjhaaM4
import Derived.WalkKit
import Derived.ProofKit
import Derived.OpenShut
import Derived.ShutString
import Derived.ChangeOld
import Derived.Below
namespace Go.Proofs.Ytfamnoalgjkjhaa
open Go.ChangeShapes Go.WideShapes Go.ChangeAt Go.RowKit Go.Eng
open Go.ChangeMaps (open_string shut_string)
set_option linter.unusedVariables false

theorem okI_of {x : Int} (h : InK .i64 x) : (Lit.int .i64 x).wf = true := by
  simp only [Lit.wf, Bool.and_eq_true, decide_eq_true_eq]; exact h
theorem opens_FactsValidate_22 : Opens Try.prog 22 (rSlice rFact) (fun xs => ∀ x ∈ xs, (fun d => InK .i64 d.1 ∧ (fun d => InK .i64 d.1 ∧ (fun d => InK .i64 d.1 ∧ (fun d => (fun d => InK .i64 d.1 ∧ (fun d => InK .i64 d.1 ∧ InK .i64 d.2) d.2) d.1 ∧ (fun d => (fun d => InK .i64 d.1 ∧ InK .i64 d.2) d.1 ∧ InK .i64 d.2) d.2) d.2) d.2) d.2) x) := (opens_slice Try.underlying22 (by kernel_rfl) rfl (opens_struct (fs := [⟨ "Id", 3, 0, false, "", "", 0⟩, ⟨ "Member", 3, 1, false, "", "", 8⟩, ⟨ "Input", 3, 2, false, "", "", 16⟩, ⟨ "Value", 30, 3, false, "", "", 24⟩, ⟨ "Valid", 40, 6, false, "", "", 48⟩, ⟨ "Recorded", 3, 8, false, "", "", 64⟩]) Try.underlying45 (by kernel_rfl) (opensF_cons rfl (by kernel_rfl) (opens_int Try.underlying3) (opensF_cons rfl (by kernel_rfl) (opens_int Try.underlying3) (opensF_cons rfl (by kernel_rfl) (opens_int Try.underlying3) (opensF_cons rfl (by kernel_rfl) (opens_struct (fs := [⟨ "Kind", 3, 0, false, "", "", 0⟩, ⟨ "Enum", 3, 1, false, "", "", 8⟩, ⟨ "N", 3, 2, false, "", "", 16⟩]) Try.underlying30 (by kernel_rfl) (opensF_cons rfl (by kernel_rfl) (opens_int Try.underlying3) (opensF_cons rfl (by kernel_rfl) (opens_int Try.underlying3) (opensF_last rfl (by kernel_rfl) (opens_int Try.underlying3)) rfl) rfl)) (opensF_cons rfl (by kernel_rfl) (opens_struct (fs := [⟨ "From", 3, 0, false, "", "", 0⟩, ⟨ "To", 3, 1, false, "", "", 8⟩]) Try.underlying40 (by kernel_rfl) (opensF_cons rfl (by kernel_rfl) (opens_int Try.underlying3) (opensF_last rfl (by kernel_rfl) (opens_int Try.underlying3)) rfl)) (opensF_last rfl (by kernel_rfl) (opens_int Try.underlying3)) rfl) rfl) rfl) rfl) rfl)))
theorem own_FactsValidate : ownKnob Try.prog.godebug = none := by kernel_rfl
theorem laidOut_FactsValidate : laidOutB Try.prog = true := by kernel_rfl
set_option maxRecDepth 100000 in
theorem lifted_FactsValidate (os : Os) (started : os.Started) (H : Type) (enc : TypeId × Value → H) :
    ReturnsInHanded {} Try.checked os 3 .any (Rows.factsValidateSpec.pre6 enc Try.prog Try.f3 Rows.factsValidateRow.domain false) (Rows.factsValidateSpec.post enc Try.prog Try.f3 false true false false) := by
  refine returnsInHanded_of_change (C := Try.checked) own_FactsValidate started (by kernel_rfl) Try.func3
    (ChangeSpec.witness6 (enc := enc) (C := Try.checked) false ⟨#[], #[.slice none 0 0], []⟩ 8 (by kernel_rfl) (by kernel_rfl) (by kernel_rfl) (by kernel_rfl)) ?_
  intro W base args ds gs before hval0 hW hcnd _
  have hval : ∀ (j : Nat) t v, Try.f3.params[j]? = some t → args[j]? = some v → Value.okWide Try.prog W .any base t v := hval0
  have hW' := hW
  obtain ⟨p, q, hA0, hV, rfl, hfz, hnd⟩ := hW
  have hA : DataW.TrodAll enc Try.prog W 0 (fun _ => true) true Try.f3.params.toList args.toList ds p := hA0
  rw [Try.params3] at hA hval
  obtain ⟨v0, vs0, d0, ds0, p0, q0, hargs, rfl, rfl, h0, r0⟩ := trodAll_cons hA
  obtain ⟨rfl, rfl, rfl⟩ := trodAll_nil r0
  obtain rfl : args = #[v0] := by cases args; simp_all
  obtain ⟨rfl, rfl⟩ := trodVars_none hV
  have k0 := h0
  have lt0 : ∀ x ∈ p0, x.block < W.heap.size := by obtain ⟨m, hm⟩ := k0; exact DataW.trod_lt m _ _ _ hm
  obtain ⟨_, _, _, rfl⟩ := okWide_slice Try.underlying22 (hval 0 22 v0 rfl rfl)
  obtain ⟨x0, X0, f0⟩ := opens_FactsValidate_22.arg rfl h0
  clear hA0 hval0
  refine ((law_validate x0 (fun x hx => okI_of (f0 x hx).1)).calls W (Old W) _ (fun b h => h) ⟨_, _, rfl, X0, rfl⟩).mono fun e W' hR => ?_
  obtain ⟨u, rfl, bel, hu⟩ := hR
  have bel := bel.plain (fun _ h => h)
  have hu : u = .bool true := hu
  subst hu
  exact ⟨_, rfl, _, _, _, [], _, [], hW', trodAll_mk1 (shut_bool Try.underlying4 _), (trodAll_cons_mk (Below.trod laidOut_FactsValidate (by kernel_rfl) (of_decide_eq_true (by kernel_rfl)) k0 bel.kit lt0) trodAll_mk0), rfl, bel.kit.frame _, fun h => by cases h⟩

theorem over_FactsValidate : Rows.factsValidateRow.holds Try.pinned (OpenSpec.ofChange Rows.factsValidateSpec) :=
  OpenClaim.holds_of_wide 3 Try.f3 rfl rfl rfl rfl rfl rfl rfl ⟨rfl, rfl, rfl, rfl, rfl⟩ rfl rfl rfl rfl rfl (by kernel_rfl) Try.func3 (by kernel_rfl)
    (of_decide_eq_true (by kernel_rfl)) (by unfold Func.isWrapper; first | (rw [if_pos (by decide +kernel)]; kernel_rfl) | (rw [if_neg (by decide +kernel)]; exact ⟨rfl, rfl⟩))
    (fun os started H enc _ => lifted_FactsValidate os started H enc)

/-- THE STATEMENT -/
theorem provedFactsValidate : Rows.FactsValidateSaid := over_FactsValidate
#print axioms provedFactsValidate
end Go.Proofs.Ytfamnoalgjkjhaa
