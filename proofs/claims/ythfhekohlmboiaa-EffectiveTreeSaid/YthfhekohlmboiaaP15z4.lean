/- Whatever the input: the law EffectiveTree returns true, and each argument reads behind the call as it read before. No conditions. -/
import Derived.Test.YthfhekohlmboiaaP15l
import Derived.Test.YthfhekohlmboiaaRows
import Derived.Test.YthfhekohlmboiaaEng12
import Derived.WalkKit
import Derived.ProofKit
import Derived.OpenShut
import Derived.ShutString
import Derived.ChangeOld
import Derived.Below
namespace Go.Proofs.Ythfhekohlmboiaa
open Go.ChangeShapes Go.WideShapes Go.ChangeAt Go.RowKit Go.Eng
open Go.ChangeMaps (open_string shut_string)
set_option linter.unusedVariables false

theorem opens_EffectiveTree_40 : Opens Try.prog 40 rScope (fun d => (fun s => s.length ≤ maxLen) d.1 ∧ (fun d => InK .i64 d.1 ∧ (fun d => (fun xs => ∀ x ∈ xs, (fun d => (fun s => s.length ≤ maxLen) d.1 ∧ (fun d => InK .i64 d.1 ∧ InK .i64 d.2) d.2) x) d.1 ∧ (fun d => (fun xs => ∀ x ∈ xs, (fun d => (fun s => s.length ≤ maxLen) d.1 ∧ (fun d => InK .i64 d.1 ∧ InK .i64 d.2) d.2) x) d.1 ∧ (fun xs => ∀ x ∈ xs, (fun d => (fun s => s.length ≤ maxLen) d.1 ∧ (fun d => InK .i64 d.1 ∧ (fun d => InK .i64 d.1 ∧ (fun d => InK .i64 d.1 ∧ (fun d => (fun d => InK .i64 d.1 ∧ InK .i64 d.2) d.1 ∧ (fun d => (fun xs => ∀ x ∈ xs, (fun d => InK .i64 d.1 ∧ InK .i64 d.2) x) d.1 ∧ (fun d => (fun xs => ∀ x ∈ xs, (fun d => InK .i64 d.1 ∧ InK .i64 d.2) x) d.1 ∧ (fun s => s.length ≤ maxLen) d.2) d.2) d.2) d.2) d.2) d.2) d.2) x) d.2) d.2) d.2) d.2) := (opens_struct (fs := [⟨ "Name", 9, 0, false, "", "", 0⟩, ⟨ "MemberScope", 3, 1, false, "", "", 16⟩, ⟨ "Inputs", 37, 2, false, "", "", 24⟩, ⟨ "Defs", 37, 3, false, "", "", 48⟩, ⟨ "Rules", 38, 4, false, "", "", 72⟩]) Try.underlying40 (by kernel_rfl) (opensF_cons rfl (by kernel_rfl) (opens_str Try.underlying9) (opensF_cons rfl (by kernel_rfl) (opens_int Try.underlying3) (opensF_cons rfl (by kernel_rfl) (opens_slice Try.underlying37 (by kernel_rfl) rfl (opens_struct (fs := [⟨ "Name", 9, 0, false, "", "", 0⟩, ⟨ "Type", 52, 1, false, "", "", 16⟩]) Try.underlying54 (by kernel_rfl) (opensF_cons rfl (by kernel_rfl) (opens_str Try.underlying9) (opensF_last rfl (by kernel_rfl) (opens_struct (fs := [⟨ "Kind", 3, 0, false, "", "", 0⟩, ⟨ "Enum", 3, 1, false, "", "", 8⟩]) Try.underlying52 (by kernel_rfl) (opensF_cons rfl (by kernel_rfl) (opens_int Try.underlying3) (opensF_last rfl (by kernel_rfl) (opens_int Try.underlying3)) rfl))) rfl))) (opensF_cons rfl (by kernel_rfl) (opens_slice Try.underlying37 (by kernel_rfl) rfl (opens_struct (fs := [⟨ "Name", 9, 0, false, "", "", 0⟩, ⟨ "Type", 52, 1, false, "", "", 16⟩]) Try.underlying54 (by kernel_rfl) (opensF_cons rfl (by kernel_rfl) (opens_str Try.underlying9) (opensF_last rfl (by kernel_rfl) (opens_struct (fs := [⟨ "Kind", 3, 0, false, "", "", 0⟩, ⟨ "Enum", 3, 1, false, "", "", 8⟩]) Try.underlying52 (by kernel_rfl) (opensF_cons rfl (by kernel_rfl) (opens_int Try.underlying3) (opensF_last rfl (by kernel_rfl) (opens_int Try.underlying3)) rfl))) rfl))) (opensF_last rfl (by kernel_rfl) (opens_slice Try.underlying38 (by kernel_rfl) rfl (opens_struct (fs := [⟨ "Name", 9, 0, false, "", "", 0⟩, ⟨ "Def", 3, 1, false, "", "", 16⟩, ⟨ "Parent", 3, 2, false, "", "", 24⟩, ⟨ "Priority", 3, 3, false, "", "", 32⟩, ⟨ "Valid", 45, 4, false, "", "", 40⟩, ⟨ "Guard", 46, 6, false, "", "", 56⟩, ⟨ "Value", 46, 7, false, "", "", 80⟩, ⟨ "Source", 9, 8, false, "", "", 104⟩]) Try.underlying48 (by kernel_rfl) (opensF_cons rfl (by kernel_rfl) (opens_str Try.underlying9) (opensF_cons rfl (by kernel_rfl) (opens_int Try.underlying3) (opensF_cons rfl (by kernel_rfl) (opens_int Try.underlying3) (opensF_cons rfl (by kernel_rfl) (opens_int Try.underlying3) (opensF_cons rfl (by kernel_rfl) (opens_struct (fs := [⟨ "From", 3, 0, false, "", "", 0⟩, ⟨ "To", 3, 1, false, "", "", 8⟩]) Try.underlying45 (by kernel_rfl) (opensF_cons rfl (by kernel_rfl) (opens_int Try.underlying3) (opensF_last rfl (by kernel_rfl) (opens_int Try.underlying3)) rfl)) (opensF_cons rfl (by kernel_rfl) (opens_slice Try.underlying46 (by kernel_rfl) rfl (opens_struct (fs := [⟨ "Op", 3, 0, false, "", "", 0⟩, ⟨ "N", 3, 1, false, "", "", 8⟩]) Try.underlying50 (by kernel_rfl) (opensF_cons rfl (by kernel_rfl) (opens_int Try.underlying3) (opensF_last rfl (by kernel_rfl) (opens_int Try.underlying3)) rfl))) (opensF_cons rfl (by kernel_rfl) (opens_slice Try.underlying46 (by kernel_rfl) rfl (opens_struct (fs := [⟨ "Op", 3, 0, false, "", "", 0⟩, ⟨ "N", 3, 1, false, "", "", 8⟩]) Try.underlying50 (by kernel_rfl) (opensF_cons rfl (by kernel_rfl) (opens_int Try.underlying3) (opensF_last rfl (by kernel_rfl) (opens_int Try.underlying3)) rfl))) (opensF_last rfl (by kernel_rfl) (opens_str Try.underlying9)) rfl) rfl) rfl) rfl) rfl) rfl) rfl)))) rfl) rfl) rfl) rfl))
theorem own_EffectiveTree : ownKnob Try.prog.godebug = none := by kernel_rfl
theorem laidOut_EffectiveTree : laidOutB Try.prog = true := by kernel_rfl
set_option maxRecDepth 100000 in
theorem lifted_EffectiveTree (os : Os) (started : os.Started) (H : Type) (enc : TypeId × Value → H) :
    ReturnsInHanded {} Try.checked os 7 .any (Rows.effectiveTreeSpec.pre6 enc Try.prog Try.f7 Rows.effectiveTreeRow.domain false) (Rows.effectiveTreeSpec.post enc Try.prog Try.f7 false true false false) := by
  refine returnsInHanded_of_change (C := Try.checked) own_EffectiveTree started (by kernel_rfl) Try.func7
    (ChangeSpec.witness6 (enc := enc) (C := Try.checked) false ⟨#[], #[.agg #[.string ByteArray.empty, .int .i64 0, .slice none 0 0, .slice none 0 0, .slice none 0 0], .int .i64 0, .int .i64 0], []⟩ 8 (by kernel_rfl) (by kernel_rfl) (by kernel_rfl) (by kernel_rfl)) ?_
  intro W base args ds gs before hval0 hW hcnd _
  have hval : ∀ (j : Nat) t v, Try.f7.params[j]? = some t → args[j]? = some v → Value.okWide Try.prog W .any base t v := hval0
  have hW' := hW
  obtain ⟨p, q, hA0, hV, rfl, hfz, hnd⟩ := hW
  have hA : DataW.TrodAll enc Try.prog W 0 (fun _ => true) true Try.f7.params.toList args.toList ds p := hA0
  rw [Try.params7] at hA hval
  obtain ⟨v0, vs0, d0, ds0, p0, q0, hargs, rfl, rfl, h0, r0⟩ := trodAll_cons hA
  obtain ⟨v1, vs1, d1, ds1, p1, q1, rfl, rfl, rfl, h1, r1⟩ := trodAll_cons r0
  obtain ⟨v2, vs2, d2, ds2, p2, q2, rfl, rfl, rfl, h2, r2⟩ := trodAll_cons r1
  obtain ⟨rfl, rfl, rfl⟩ := trodAll_nil r2
  obtain rfl : args = #[v0, v1, v2] := by cases args; simp_all
  obtain ⟨rfl, rfl⟩ := trodVars_none hV
  have k0 := h0
  have lt0 : ∀ x ∈ p0, x.block < W.heap.size := by obtain ⟨m, hm⟩ := k0; exact DataW.trod_lt m _ _ _ hm
  obtain ⟨_, rfl, _⟩ := okWide_struct Try.underlying40 (hval 0 40 v0 rfl rfl)
  obtain ⟨x0, X0, f0⟩ := opens_EffectiveTree_40.arg rfl h0
  obtain ⟨a1, rfl, rfl, rfl, w1⟩ := open_int Try.underlying3 (hval 1 3 v1 rfl rfl) h1
  obtain ⟨a2, rfl, rfl, rfl, w2⟩ := open_int Try.underlying3 (hval 2 3 v2 rfl rfl) h2
  clear hA0 hval0
  refine ((law_tree x0 a1 a2).calls W (Old W) _ (fun b h => h) ⟨_, _, rfl, X0, _, _, rfl, rfl, _, _, rfl, rfl, rfl⟩).mono fun e W' hR => ?_
  obtain ⟨u, rfl, bel, hu⟩ := hR
  have bel := bel.plain (fun _ h => h)
  have hu : u = .bool true := hu
  subst hu
  exact ⟨_, rfl, _, _, _, [], _, [], hW', trodAll_mk1 (shut_bool Try.underlying4 _), (trodAll_cons_mk (Below.trod laidOut_EffectiveTree (by kernel_rfl) (of_decide_eq_true (by kernel_rfl)) k0 bel.kit lt0) (trodAll_cons_mk (shut_int Try.underlying3 w1) (trodAll_cons_mk (shut_int Try.underlying3 w2) trodAll_mk0))), rfl, bel.kit.frame _, fun h => by cases h⟩

theorem over_EffectiveTree : Rows.effectiveTreeRow.holds Try.pinned (OpenSpec.ofChange Rows.effectiveTreeSpec) :=
  OpenClaim.holds_of_wide 7 Try.f7 rfl rfl rfl rfl rfl rfl rfl ⟨rfl, rfl, rfl, rfl, rfl⟩ rfl rfl rfl rfl rfl (by kernel_rfl) Try.func7 (by kernel_rfl)
    (of_decide_eq_true (by kernel_rfl)) (by unfold Func.isWrapper; first | (rw [if_pos (by decide +kernel)]; kernel_rfl) | (rw [if_neg (by decide +kernel)]; exact ⟨rfl, rfl⟩))
    (fun os started H enc _ => lifted_EffectiveTree os started H enc)

/-- THE STATEMENT -/
theorem provedEffectiveTree : Rows.EffectiveTreeSaid := over_EffectiveTree
#print axioms provedEffectiveTree
end Go.Proofs.Ythfhekohlmboiaa
