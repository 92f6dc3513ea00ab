/- Whatever the input: the law guerdonlaw37.LedgerValidate returns true, and each argument reads behind the call as it read before. No conditions. -/
import Derived.Test.YtmpgmhcbhkhakaaP37g
import Derived.Test.YtmpgmhcbhkhakaaRows
import Derived.Test.YtmpgmhcbhkhakaaEng12
import Derived.WalkKit
import Derived.ProofKit
import Derived.OpenShut
import Derived.ShutString
import Derived.ChangeOld
import Derived.Below
namespace Go.Proofs.Ytmpgmhcbhkhakaa
open Go.ChangeShapes Go.WideShapes Go.ChangeAt Go.RowKit Go.Eng
open Go.ChangeMaps (open_string shut_string)
set_option linter.unusedVariables false

theorem opens_LedgerValidate_22 : Opens Try.prog 22 (rSlice rPosting) (fun xs => ∀ x ∈ xs, (fun d => InK .i64 d.1 ∧ (fun d => InK .i64 d.1 ∧ (fun d => InK .i64 d.1 ∧ InK .i64 d.2) d.2) d.2) x) := (opens_slice Try.underlying22 (by kernel_rfl) rfl (opens_struct (fs := [⟨ "Date", 3, 0, false, "", "", 0⟩, ⟨ "Month", 3, 1, false, "", "", 8⟩, ⟨ "Kind", 3, 2, false, "", "", 16⟩, ⟨ "Cents", 3, 3, false, "", "", 24⟩]) Try.underlying37 (by kernel_rfl) (opensF_cons rfl (by kernel_rfl) (opens_int Try.underlying3) (opensF_cons rfl (by kernel_rfl) (opens_int Try.underlying3) (opensF_cons rfl (by kernel_rfl) (opens_int Try.underlying3) (opensF_last rfl (by kernel_rfl) (opens_int Try.underlying3)) rfl) rfl) rfl)))
theorem own_LedgerValidate : ownKnob Try.prog.godebug = none := by kernel_rfl
theorem laidOut_LedgerValidate : laidOutB Try.prog = true := by kernel_rfl
set_option maxRecDepth 100000 in
theorem lifted_LedgerValidate (os : Os) (started : os.Started) (H : Type) (enc : TypeId × Value → H) :
    ReturnsInHanded {} Try.checked os 3 .any (Rows.ledgerValidateSpec.pre6 enc Try.prog Try.f3 Rows.ledgerValidateRow.domain false) (Rows.ledgerValidateSpec.post enc Try.prog Try.f3 false true false false) := by
  refine returnsInHanded_of_change (C := Try.checked) own_LedgerValidate started (by kernel_rfl) Try.func3
    (ChangeSpec.witness6 (enc := enc) (C := Try.checked) false ⟨#[], #[.slice none 0 0], []⟩ 8 (by kernel_rfl) (by kernel_rfl) (by kernel_rfl) (by kernel_rfl)) ?_
  intro W base args ds gs before hval0 hW hcnd _
  have hval : ∀ (j : Nat) t v, Try.f3.params[j]? = some t → args[j]? = some v → Value.okWide Try.prog W .any base t v := hval0
  have hW' := hW
  obtain ⟨p, q, hA0, hV, rfl, hfz, hnd⟩ := hW
  have hA : DataW.TrodAll enc Try.prog W 0 (fun _ => true) true Try.f3.params.toList args.toList ds p := hA0
  rw [Try.params3] at hA hval
  obtain ⟨v0, vs0, d0, ds0, p0, q0, hargs, rfl, rfl, h0, r0⟩ := trodAll_cons hA
  obtain ⟨rfl, rfl, rfl⟩ := trodAll_nil r0
  obtain rfl : args = #[v0] := by cases args; simp_all
  obtain ⟨rfl, rfl⟩ := trodVars_none hV
  have k0 := h0
  have lt0 : ∀ x ∈ p0, x.block < W.heap.size := by obtain ⟨m, hm⟩ := k0; exact DataW.trod_lt m _ _ _ hm
  obtain ⟨_, _, _, rfl⟩ := okWide_slice Try.underlying22 (hval 0 22 v0 rfl rfl)
  obtain ⟨x0, X0, f0⟩ := opens_LedgerValidate_22.arg rfl h0
  clear hA0 hval0
  refine ((law_validate x0).calls W (Old W) _ (fun b h => h) ⟨_, _, rfl, X0, rfl⟩).mono fun e W' hR => ?_
  obtain ⟨u, rfl, bel, hu⟩ := hR
  have hu : u = .bool true := hu
  subst hu
  exact ⟨_, rfl, _, _, _, [], _, [], hW', trodAll_mk1 (shut_bool Try.underlying4 _), (trodAll_cons_mk (Below.trod laidOut_LedgerValidate (by kernel_rfl) (of_decide_eq_true (by kernel_rfl)) k0 bel lt0) trodAll_mk0), rfl, bel.frame _, fun h => by cases h⟩

theorem over_LedgerValidate : Rows.ledgerValidateRow.holds Try.pinned (OpenSpec.ofChange Rows.ledgerValidateSpec) :=
  OpenClaim.holds_of_wide 3 Try.f3 rfl rfl rfl rfl rfl rfl rfl ⟨rfl, rfl, rfl, rfl, rfl⟩ rfl rfl rfl rfl rfl (by kernel_rfl) Try.func3 (by kernel_rfl)
    (of_decide_eq_true (by kernel_rfl)) (by unfold Func.isWrapper; first | (rw [if_pos (by decide +kernel)]; kernel_rfl) | (rw [if_neg (by decide +kernel)]; exact ⟨rfl, rfl⟩))
    (fun os started H enc _ => lifted_LedgerValidate os started H enc)

/-- THE STATEMENT -/
theorem provedLedgerValidate : Rows.LedgerValidateSaid := over_LedgerValidate
#print axioms provedLedgerValidate
end Go.Proofs.Ytmpgmhcbhkhakaa
