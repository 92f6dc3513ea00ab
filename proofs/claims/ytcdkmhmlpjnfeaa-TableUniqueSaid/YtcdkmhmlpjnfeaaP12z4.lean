/- Whatever the input: the law guerdonlaw12.TableUnique returns true, and each argument reads behind the call as it read before. No conditions. -/
import Derived.Test.YtcdkmhmlpjnfeaaP12v
import Derived.Test.YtcdkmhmlpjnfeaaRows
import Derived.Test.YtcdkmhmlpjnfeaaEng12
import Derived.WalkKit
import Derived.ProofKit
import Derived.OpenShut
import Derived.ShutString
import Derived.ChangeOld
import Derived.Below
namespace Go.Proofs.Ytcdkmhmlpjnfeaa
open Go.ChangeShapes Go.WideShapes Go.ChangeAt Go.RowKit Go.Eng
open Go.ChangeMaps (open_string shut_string)
set_option linter.unusedVariables false

theorem inK64 {n : Int} (h : InK .i64 n) : -9223372036854775808 ≤ n ∧ n ≤ 9223372036854775807 := by
  have h1 : IntKind.i64.min = -9223372036854775808 := by kernel_rfl
  have h2 : IntKind.i64.max = 9223372036854775807 := by kernel_rfl
  unfold InK at h
  omega
theorem opens_TableUnique_26 : Opens Try.prog 26 rTable (fun d => (fun s => s.length ≤ maxLen) d.1 ∧ (fun d => (fun d => InK .i64 d.1 ∧ InK .i64 d.2) d.1 ∧ (fun d => (fun d => InK .i64 d.1 ∧ InK .i64 d.2) d.1 ∧ (fun xs => ∀ x ∈ xs, (fun d => (fun d => InK .i64 d.1 ∧ InK .i64 d.2) d.1 ∧ (fun d => InK .i64 d.1 ∧ (fun d => InK .i64 d.1 ∧ InK .i64 d.2) d.2) d.2) x) d.2) d.2) d.2) := (opens_struct (fs := [⟨ "Name", 9, 0, false, "", "", 0⟩, ⟨ "Key", 23, 1, false, "", "", 16⟩, ⟨ "Value", 23, 3, false, "", "", 32⟩, ⟨ "Rows", 24, 5, false, "", "", 48⟩]) Try.underlying26 (by kernel_rfl) (opensF_cons rfl (by kernel_rfl) (opens_str Try.underlying9) (opensF_cons rfl (by kernel_rfl) (opens_struct (fs := [⟨ "Kind", 3, 0, false, "", "", 0⟩, ⟨ "Enum", 3, 1, false, "", "", 8⟩]) Try.underlying23 (by kernel_rfl) (opensF_cons rfl (by kernel_rfl) (opens_int Try.underlying3) (opensF_last rfl (by kernel_rfl) (opens_int Try.underlying3)) rfl)) (opensF_cons rfl (by kernel_rfl) (opens_struct (fs := [⟨ "Kind", 3, 0, false, "", "", 0⟩, ⟨ "Enum", 3, 1, false, "", "", 8⟩]) Try.underlying23 (by kernel_rfl) (opensF_cons rfl (by kernel_rfl) (opens_int Try.underlying3) (opensF_last rfl (by kernel_rfl) (opens_int Try.underlying3)) rfl)) (opensF_last rfl (by kernel_rfl) (opens_slice Try.underlying24 (by kernel_rfl) rfl (opens_struct (fs := [⟨ "Valid", 48, 0, false, "", "", 0⟩, ⟨ "Lo", 3, 2, false, "", "", 16⟩, ⟨ "Hi", 3, 3, false, "", "", 24⟩, ⟨ "N", 3, 4, false, "", "", 32⟩]) Try.underlying50 (by kernel_rfl) (opensF_cons rfl (by kernel_rfl) (opens_struct (fs := [⟨ "From", 3, 0, false, "", "", 0⟩, ⟨ "To", 3, 1, false, "", "", 8⟩]) Try.underlying48 (by kernel_rfl) (opensF_cons rfl (by kernel_rfl) (opens_int Try.underlying3) (opensF_last rfl (by kernel_rfl) (opens_int Try.underlying3)) rfl)) (opensF_cons rfl (by kernel_rfl) (opens_int Try.underlying3) (opensF_cons rfl (by kernel_rfl) (opens_int Try.underlying3) (opensF_last rfl (by kernel_rfl) (opens_int Try.underlying3)) rfl) rfl) rfl)))) rfl) rfl) rfl))
theorem opens_TableUnique_27 : Opens Try.prog 27 (rSlice rEnum) (fun xs => ∀ x ∈ xs, (fun d => (fun s => s.length ≤ maxLen) d.1 ∧ (fun xs => ∀ x ∈ xs, (fun s => s.length ≤ maxLen) x) d.2) x) := (opens_slice Try.underlying27 (by kernel_rfl) rfl (opens_struct (fs := [⟨ "Name", 9, 0, false, "", "", 0⟩, ⟨ "Members", 89, 1, false, "", "", 16⟩]) Try.underlying91 (by kernel_rfl) (opensF_cons rfl (by kernel_rfl) (opens_str Try.underlying9) (opensF_last rfl (by kernel_rfl) (opens_slice Try.underlying89 (by kernel_rfl) rfl (opens_str Try.underlying9))) rfl)))
theorem own_TableUnique : ownKnob Try.prog.godebug = none := by kernel_rfl
theorem laidOut_TableUnique : laidOutB Try.prog = true := by kernel_rfl
set_option maxRecDepth 100000 in
theorem lifted_TableUnique (os : Os) (started : os.Started) (H : Type) (enc : TypeId × Value → H) :
    ReturnsInHanded {} Try.checked os 6 .any (Rows.tableUniqueSpec.pre6 enc Try.prog Try.f6 Rows.tableUniqueRow.domain false) (Rows.tableUniqueSpec.post enc Try.prog Try.f6 false true false false) := by
  refine returnsInHanded_of_change (C := Try.checked) own_TableUnique started (by kernel_rfl) Try.func6
    (ChangeSpec.witness6 (enc := enc) (C := Try.checked) false ⟨#[], #[.agg #[.string ByteArray.empty, .int .i64 0, .int .i64 0, .int .i64 0, .int .i64 0, .slice none 0 0], .slice none 0 0, .int .i64 0, .int .i64 0], []⟩ 8 (by kernel_rfl) (by kernel_rfl) (by kernel_rfl) (by kernel_rfl)) ?_
  intro W base args ds gs before hval0 hW hcnd _
  have hval : ∀ (j : Nat) t v, Try.f6.params[j]? = some t → args[j]? = some v → Value.okWide Try.prog W .any base t v := hval0
  have hW' := hW
  obtain ⟨p, q, hA0, hV, rfl, hfz, hnd⟩ := hW
  have hA : DataW.TrodAll enc Try.prog W 0 (fun _ => true) true Try.f6.params.toList args.toList ds p := hA0
  rw [Try.params6] at hA hval
  obtain ⟨v0, vs0, d0, ds0, p0, q0, hargs, rfl, rfl, h0, r0⟩ := trodAll_cons hA
  obtain ⟨v1, vs1, d1, ds1, p1, q1, rfl, rfl, rfl, h1, r1⟩ := trodAll_cons r0
  obtain ⟨v2, vs2, d2, ds2, p2, q2, rfl, rfl, rfl, h2, r2⟩ := trodAll_cons r1
  obtain ⟨v3, vs3, d3, ds3, p3, q3, rfl, rfl, rfl, h3, r3⟩ := trodAll_cons r2
  obtain ⟨rfl, rfl, rfl⟩ := trodAll_nil r3
  obtain rfl : args = #[v0, v1, v2, v3] := by cases args; simp_all
  obtain ⟨rfl, rfl⟩ := trodVars_none hV
  have k0 := h0
  have lt0 : ∀ x ∈ p0, x.block < W.heap.size := by obtain ⟨m, hm⟩ := k0; exact DataW.trod_lt m _ _ _ hm
  obtain ⟨_, rfl, _⟩ := okWide_struct Try.underlying26 (hval 0 26 v0 rfl rfl)
  obtain ⟨x0, X0, f0⟩ := opens_TableUnique_26.arg rfl h0
  have k1 := h1
  have lt1 : ∀ x ∈ p1, x.block < W.heap.size := by obtain ⟨m, hm⟩ := k1; exact DataW.trod_lt m _ _ _ hm
  obtain ⟨_, _, _, rfl⟩ := okWide_slice Try.underlying27 (hval 1 27 v1 rfl rfl)
  obtain ⟨x1, X1, f1⟩ := opens_TableUnique_27.arg rfl h1
  obtain ⟨a2, rfl, rfl, rfl, w2⟩ := open_int Try.underlying3 (hval 2 3 v2 rfl rfl) h2
  obtain ⟨a3, rfl, rfl, rfl, w3⟩ := open_int Try.underlying3 (hval 3 3 v3 rfl rfl) h3
  clear hA0 hval0
  refine ((law_unique x0 x1 a2 a3 (fun x hx => ⟨(inK64 (f0.2.2.2 x hx).2.1).1, (inK64 (f0.2.2.2 x hx).2.2.1).2⟩)).calls W (Old W) _ (fun b h => h) ⟨_, _, rfl, X0, _, _, rfl, X1, _, _, rfl, rfl, _, _, rfl, rfl, rfl⟩).mono fun e W' hR => ?_
  obtain ⟨u, rfl, bel, hu⟩ := hR
  have bel := bel.plain (fun _ h => h)
  have hu : u = .bool true := hu
  subst hu
  exact ⟨_, rfl, _, _, _, [], _, [], hW', trodAll_mk1 (shut_bool Try.underlying4 _), (trodAll_cons_mk (Below.trod laidOut_TableUnique (by kernel_rfl) (of_decide_eq_true (by kernel_rfl)) k0 bel.kit lt0) (trodAll_cons_mk (Below.trod laidOut_TableUnique (by kernel_rfl) (of_decide_eq_true (by kernel_rfl)) k1 bel.kit lt1) (trodAll_cons_mk (shut_int Try.underlying3 w2) (trodAll_cons_mk (shut_int Try.underlying3 w3) trodAll_mk0)))), rfl, bel.kit.frame _, fun h => by cases h⟩

theorem over_TableUnique : Rows.tableUniqueRow.holds Try.pinned (OpenSpec.ofChange Rows.tableUniqueSpec) :=
  OpenClaim.holds_of_wide 6 Try.f6 rfl rfl rfl rfl rfl rfl rfl ⟨rfl, rfl, rfl, rfl, rfl⟩ rfl rfl rfl rfl rfl (by kernel_rfl) Try.func6 (by kernel_rfl)
    (of_decide_eq_true (by kernel_rfl)) (by unfold Func.isWrapper; first | (rw [if_pos (by decide +kernel)]; kernel_rfl) | (rw [if_neg (by decide +kernel)]; exact ⟨rfl, rfl⟩))
    (fun os started H enc _ => lifted_TableUnique os started H enc)

/-- THE STATEMENT -/
theorem provedTableUnique : Rows.TableUniqueSaid := over_TableUnique
#print axioms provedTableUnique
end Go.Proofs.Ytcdkmhmlpjnfeaa
