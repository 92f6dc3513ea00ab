/- Whatever the input: the law guerdonlaw02.MoneyAllocate returns true, and each argument reads behind the call as it read before. No conditions. -/
import Derived.Test.YtdfdonfhaadnmaaP02l
import Derived.Test.YtdfdonfhaadnmaaRows
import Derived.Test.YtdfdonfhaadnmaaEng12
import Derived.WalkKit
import Derived.ProofKit
import Derived.OpenShut
import Derived.ShutString
import Derived.ChangeOld
import Derived.Below
namespace Go.Proofs.Ytdfdonfhaadnmaa
open Go.ChangeShapes Go.WideShapes Go.ChangeAt Go.RowKit Go.Eng
open Go.ChangeMaps (open_string shut_string)
set_option linter.unusedVariables false

theorem opens_MoneyAllocate_29 : Opens Try.prog 29 (rSlice (rInt .i64)) (fun xs => ∀ x ∈ xs, InK .i64 x) := (opens_slice Try.underlying29 (by kernel_rfl) rfl (opens_int Try.underlying3))
theorem own_MoneyAllocate : ownKnob Try.prog.godebug = none := by kernel_rfl
theorem laidOut_MoneyAllocate : laidOutB Try.prog = true := by kernel_rfl
set_option maxRecDepth 100000 in
theorem lifted_MoneyAllocate (os : Os) (started : os.Started) (H : Type) (enc : TypeId × Value → H) :
    ReturnsInHanded {} Try.checked os 6 .any (Rows.moneyAllocateSpec.pre6 enc Try.prog Try.f6 Rows.moneyAllocateRow.domain false) (Rows.moneyAllocateSpec.post enc Try.prog Try.f6 false true false false) := by
  refine returnsInHanded_of_change (C := Try.checked) own_MoneyAllocate started (by kernel_rfl) Try.func6
    (ChangeSpec.witness6 (enc := enc) (C := Try.checked) false ⟨#[], #[.int .i64 0, .slice none 0 0], []⟩ 8 (by kernel_rfl) (by kernel_rfl) (by kernel_rfl) (by kernel_rfl)) ?_
  intro W base args ds gs before hval0 hW hcnd _
  have hval : ∀ (j : Nat) t v, Try.f6.params[j]? = some t → args[j]? = some v → Value.okWide Try.prog W .any base t v := hval0
  have hW' := hW
  obtain ⟨p, q, hA0, hV, rfl, hfz, hnd⟩ := hW
  have hA : DataW.TrodAll enc Try.prog W 0 (fun _ => true) true Try.f6.params.toList args.toList ds p := hA0
  rw [Try.params6] at hA hval
  obtain ⟨v0, vs0, d0, ds0, p0, q0, hargs, rfl, rfl, h0, r0⟩ := trodAll_cons hA
  obtain ⟨v1, vs1, d1, ds1, p1, q1, rfl, rfl, rfl, h1, r1⟩ := trodAll_cons r0
  obtain ⟨rfl, rfl, rfl⟩ := trodAll_nil r1
  obtain rfl : args = #[v0, v1] := by cases args; simp_all
  obtain ⟨rfl, rfl⟩ := trodVars_none hV
  obtain ⟨a0, rfl, rfl, rfl, w0⟩ := open_int Try.underlying3 (hval 0 3 v0 rfl rfl) h0
  have k1 := h1
  have lt1 : ∀ x ∈ p1, x.block < W.heap.size := by obtain ⟨m, hm⟩ := k1; exact DataW.trod_lt m _ _ _ hm
  obtain ⟨_, _, _, rfl⟩ := okWide_slice Try.underlying29 (hval 1 29 v1 rfl rfl)
  obtain ⟨x1, X1, f1⟩ := opens_MoneyAllocate_29.arg rfl h1
  clear hA0 hval0
  refine ((law_allocate a0 x1).calls W (Old W) _ (fun b h => h) ⟨_, _, rfl, rfl, _, _, rfl, X1, rfl⟩).mono fun e W' hR => ?_
  obtain ⟨u, rfl, bel, hu⟩ := hR
  have hu : u = .bool true := hu
  subst hu
  exact ⟨_, rfl, _, _, _, [], _, [], hW', trodAll_mk1 (shut_bool Try.underlying4 _), (trodAll_cons_mk (shut_int Try.underlying3 w0) (trodAll_cons_mk (Below.trod laidOut_MoneyAllocate (by kernel_rfl) (of_decide_eq_true (by kernel_rfl)) k1 bel.kit lt1) trodAll_mk0)), rfl, bel.kit.frame _, fun h => by cases h⟩

theorem over_MoneyAllocate : Rows.moneyAllocateRow.holds Try.pinned (OpenSpec.ofChange Rows.moneyAllocateSpec) :=
  OpenClaim.holds_of_wide 6 Try.f6 rfl rfl rfl rfl rfl rfl rfl ⟨rfl, rfl, rfl, rfl, rfl⟩ rfl rfl rfl rfl rfl (by kernel_rfl) Try.func6 (by kernel_rfl)
    (of_decide_eq_true (by kernel_rfl)) (by unfold Func.isWrapper; first | (rw [if_pos (by decide +kernel)]; kernel_rfl) | (rw [if_neg (by decide +kernel)]; exact ⟨rfl, rfl⟩))
    (fun os started H enc _ => lifted_MoneyAllocate os started H enc)

/-- THE STATEMENT -/
theorem provedMoneyAllocate : Rows.MoneyAllocateSaid := over_MoneyAllocate
#print axioms provedMoneyAllocate
end Go.Proofs.Ytdfdonfhaadnmaa
