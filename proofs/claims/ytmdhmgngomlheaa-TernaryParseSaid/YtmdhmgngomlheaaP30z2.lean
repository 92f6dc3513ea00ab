/- Whatever the input: the law guerdonlaw30.TernaryParse returns true, and each argument reads behind the call as it read before. No conditions. -/
import Derived.Test.YtmdhmgngomlheaaP30s
import Derived.Test.YtmdhmgngomlheaaRows
import Derived.Test.YtmdhmgngomlheaaEng12
import Derived.WalkKit
import Derived.ProofKit
import Derived.OpenShut
import Derived.ShutString
import Derived.ChangeOld
import Derived.Below
namespace Go.Proofs.Ytmdhmgngomlheaa
open Go.ChangeShapes Go.WideShapes Go.ChangeAt Go.RowKit Go.Eng
open Go.ChangeMaps (open_string shut_string)
set_option linter.unusedVariables false

theorem opens_TernaryParse_9 : Opens Try.prog 9 rStr (fun s => s.length ≤ maxLen) := (opens_str Try.underlying9)
theorem own_TernaryParse : ownKnob Try.prog.godebug = none := by kernel_rfl
theorem laidOut_TernaryParse : laidOutB Try.prog = true := by kernel_rfl
set_option maxRecDepth 100000 in
theorem lifted_TernaryParse (os : Os) (started : os.Started) (H : Type) (enc : TypeId × Value → H) :
    ReturnsInHanded {} Try.checked os 5 .any (Rows.ternaryParseSpec.pre6 enc Try.prog Try.f5 Rows.ternaryParseRow.domain false) (Rows.ternaryParseSpec.post enc Try.prog Try.f5 false true false false) := by
  refine returnsInHanded_of_change (C := Try.checked) own_TernaryParse started (by kernel_rfl) Try.func5
    (ChangeSpec.witness6 (enc := enc) (C := Try.checked) false ⟨#[], #[.string ByteArray.empty], []⟩ 8 (by kernel_rfl) (by kernel_rfl) (by kernel_rfl) (by kernel_rfl)) ?_
  intro W base args ds gs before hval0 hW hcnd _
  have hval : ∀ (j : Nat) t v, Try.f5.params[j]? = some t → args[j]? = some v → Value.okWide Try.prog W .any base t v := hval0
  have hW' := hW
  obtain ⟨p, q, hA0, hV, rfl, hfz, hnd⟩ := hW
  have hA : DataW.TrodAll enc Try.prog W 0 (fun _ => true) true Try.f5.params.toList args.toList ds p := hA0
  rw [Try.params5] at hA hval
  obtain ⟨v0, vs0, d0, ds0, p0, q0, hargs, rfl, rfl, h0, r0⟩ := trodAll_cons hA
  obtain ⟨rfl, rfl, rfl⟩ := trodAll_nil r0
  obtain rfl : args = #[v0] := by cases args; simp_all
  obtain ⟨rfl, rfl⟩ := trodVars_none hV
  have k0 := h0
  have lt0 : ∀ x ∈ p0, x.block < W.heap.size := by obtain ⟨m, hm⟩ := k0; exact DataW.trod_lt m _ _ _ hm
  obtain ⟨_, rfl⟩ := okWide_string Try.underlying9 (hval 0 9 v0 rfl rfl)
  obtain ⟨x0, X0, f0⟩ := opens_TernaryParse_9.arg rfl h0
  clear hA0 hval0
  refine ((law_parse x0).calls W (Old W) _ (fun b h => h) ⟨_, _, rfl, (rStr.val_raw rfl X0), rfl⟩).mono fun e W' hR => ?_
  obtain ⟨u, rfl, bel, hu⟩ := hR
  have bel := bel.plain (fun _ h => h)
  have hu : u = .bool true := hu
  subst hu
  exact ⟨_, rfl, _, _, _, [], _, [], hW', trodAll_mk1 (shut_bool Try.underlying4 _), (trodAll_cons_mk (Below.trod laidOut_TernaryParse (by kernel_rfl) (of_decide_eq_true (by kernel_rfl)) k0 bel.kit lt0) trodAll_mk0), rfl, bel.kit.frame _, fun h => by cases h⟩

theorem over_TernaryParse : Rows.ternaryParseRow.holds Try.pinned (OpenSpec.ofChange Rows.ternaryParseSpec) :=
  OpenClaim.holds_of_wide 5 Try.f5 rfl rfl rfl rfl rfl rfl rfl ⟨rfl, rfl, rfl, rfl, rfl⟩ rfl rfl rfl rfl rfl (by kernel_rfl) Try.func5 (by kernel_rfl)
    (of_decide_eq_true (by kernel_rfl)) (by unfold Func.isWrapper; first | (rw [if_pos (by decide +kernel)]; kernel_rfl) | (rw [if_neg (by decide +kernel)]; exact ⟨rfl, rfl⟩))
    (fun os started H enc _ => lifted_TernaryParse os started H enc)

/-- THE STATEMENT -/
theorem provedTernaryParse : Rows.TernaryParseSaid := over_TernaryParse
#print axioms provedTernaryParse
end Go.Proofs.Ytmdhmgngomlheaa
