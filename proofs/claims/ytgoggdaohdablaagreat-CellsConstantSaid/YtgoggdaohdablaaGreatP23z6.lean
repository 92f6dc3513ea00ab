/- Whatever the input: the law guerdonlaw23.CellsConstant returns true, and each argument reads behind the call as it read before. No conditions. -/
import Derived.Test.YtgoggdaohdablaaGreatP23o
import Derived.Test.YtgoggdaohdablaaGreatRows
import Derived.Test.YtgoggdaohdablaaGreatEng12
import Derived.WalkKit
import Derived.ProofKit
import Derived.OpenShut
import Derived.ShutString
import Derived.ChangeOld
import Derived.Below
namespace Go.Proofs.YtgoggdaohdablaaGreat
open Go.ChangeShapes Go.WideShapes Go.ChangeAt Go.RowKit Go.Eng
open Go.ChangeMaps (open_string shut_string)
set_option linter.unusedVariables false

theorem opens_CellsConstant_22 : Opens Tryz.prog 22 (rSlice rNode) (fun xs => ∀ x ∈ xs, (fun d => InK .i64 d.1 ∧ InK .i64 d.2) x) := (opens_slice Tryz.underlying22 (by kernel_rfl) rfl (opens_struct (fs := [⟨ "Op", 3, 0, false, "", "", 0⟩, ⟨ "N", 3, 1, false, "", "", 8⟩]) Tryz.underlying56 (by kernel_rfl) (opensF_cons rfl (by kernel_rfl) (opens_int Tryz.underlying3) (opensF_last rfl (by kernel_rfl) (opens_int Tryz.underlying3)) rfl)))
theorem opens_CellsConstant_27 : Opens Tryz.prog 27 rSignature (fun d => (fun xs => ∀ x ∈ xs, (fun d => (fun s => s.length ≤ maxLen) d.1 ∧ (fun xs => ∀ x ∈ xs, (fun s => s.length ≤ maxLen) x) d.2) x) d.1 ∧ (fun d => (fun xs => ∀ x ∈ xs, (fun d => (fun s => s.length ≤ maxLen) d.1 ∧ (fun d => (fun d => InK .i64 d.1 ∧ InK .i64 d.2) d.1 ∧ (fun d => (fun d => InK .i64 d.1 ∧ InK .i64 d.2) d.1 ∧ (fun xs => ∀ x ∈ xs, (fun d => (fun d => InK .i64 d.1 ∧ InK .i64 d.2) d.1 ∧ (fun d => InK .i64 d.1 ∧ (fun d => InK .i64 d.1 ∧ InK .i64 d.2) d.2) d.2) x) d.2) d.2) d.2) x) d.1 ∧ (fun d => (fun xs => ∀ x ∈ xs, (fun d => InK .i64 d.1 ∧ InK .i64 d.2) x) d.1 ∧ (fun d => (fun xs => ∀ x ∈ xs, (fun d => InK .i64 d.1 ∧ InK .i64 d.2) x) d.1 ∧ (fun d => (fun xs => ∀ x ∈ xs, (fun d => InK .i64 d.1 ∧ InK .i64 d.2) x) d.1 ∧ (fun _ => True) d.2) d.2) d.2) d.2) d.2) := (opens_struct (fs := [⟨ "Enums", 23, 0, false, "", "", 0⟩, ⟨ "Tables", 24, 1, false, "", "", 24⟩, ⟨ "Inputs", 25, 2, false, "", "", 48⟩, ⟨ "Defs", 25, 3, false, "", "", 72⟩, ⟨ "MemberDefs", 25, 4, false, "", "", 96⟩, ⟨ "HasMembers", 4, 5, false, "", "", 120⟩]) Tryz.underlying27 (by kernel_rfl) (opensF_cons rfl (by kernel_rfl) (opens_slice Tryz.underlying23 (by kernel_rfl) rfl (opens_struct (fs := [⟨ "Name", 9, 0, false, "", "", 0⟩, ⟨ "Members", 50, 1, false, "", "", 16⟩]) Tryz.underlying52 (by kernel_rfl) (opensF_cons rfl (by kernel_rfl) (opens_str Tryz.underlying9) (opensF_last rfl (by kernel_rfl) (opens_slice Tryz.underlying50 (by kernel_rfl) rfl (opens_str Tryz.underlying9))) rfl))) (opensF_cons rfl (by kernel_rfl) (opens_slice Tryz.underlying24 (by kernel_rfl) rfl (opens_struct (fs := [⟨ "Name", 9, 0, false, "", "", 0⟩, ⟨ "Key", 37, 1, false, "", "", 16⟩, ⟨ "Value", 37, 3, false, "", "", 32⟩, ⟨ "Rows", 112, 5, false, "", "", 48⟩]) Tryz.underlying114 (by kernel_rfl) (opensF_cons rfl (by kernel_rfl) (opens_str Tryz.underlying9) (opensF_cons rfl (by kernel_rfl) (opens_struct (fs := [⟨ "Kind", 3, 0, false, "", "", 0⟩, ⟨ "Enum", 3, 1, false, "", "", 8⟩]) Tryz.underlying37 (by kernel_rfl) (opensF_cons rfl (by kernel_rfl) (opens_int Tryz.underlying3) (opensF_last rfl (by kernel_rfl) (opens_int Tryz.underlying3)) rfl)) (opensF_cons rfl (by kernel_rfl) (opens_struct (fs := [⟨ "Kind", 3, 0, false, "", "", 0⟩, ⟨ "Enum", 3, 1, false, "", "", 8⟩]) Tryz.underlying37 (by kernel_rfl) (opensF_cons rfl (by kernel_rfl) (opens_int Tryz.underlying3) (opensF_last rfl (by kernel_rfl) (opens_int Tryz.underlying3)) rfl)) (opensF_last rfl (by kernel_rfl) (opens_slice Tryz.underlying112 (by kernel_rfl) rfl (opens_struct (fs := [⟨ "Valid", 140, 0, false, "", "", 0⟩, ⟨ "Lo", 3, 2, false, "", "", 16⟩, ⟨ "Hi", 3, 3, false, "", "", 24⟩, ⟨ "N", 3, 4, false, "", "", 32⟩]) Tryz.underlying142 (by kernel_rfl) (opensF_cons rfl (by kernel_rfl) (opens_struct (fs := [⟨ "From", 3, 0, false, "", "", 0⟩, ⟨ "To", 3, 1, false, "", "", 8⟩]) Tryz.underlying140 (by kernel_rfl) (opensF_cons rfl (by kernel_rfl) (opens_int Tryz.underlying3) (opensF_last rfl (by kernel_rfl) (opens_int Tryz.underlying3)) rfl)) (opensF_cons rfl (by kernel_rfl) (opens_int Tryz.underlying3) (opensF_cons rfl (by kernel_rfl) (opens_int Tryz.underlying3) (opensF_last rfl (by kernel_rfl) (opens_int Tryz.underlying3)) rfl) rfl) rfl)))) rfl) rfl) rfl))) (opensF_cons rfl (by kernel_rfl) (opens_slice Tryz.underlying25 (by kernel_rfl) rfl (opens_struct (fs := [⟨ "Kind", 3, 0, false, "", "", 0⟩, ⟨ "Enum", 3, 1, false, "", "", 8⟩]) Tryz.underlying37 (by kernel_rfl) (opensF_cons rfl (by kernel_rfl) (opens_int Tryz.underlying3) (opensF_last rfl (by kernel_rfl) (opens_int Tryz.underlying3)) rfl))) (opensF_cons rfl (by kernel_rfl) (opens_slice Tryz.underlying25 (by kernel_rfl) rfl (opens_struct (fs := [⟨ "Kind", 3, 0, false, "", "", 0⟩, ⟨ "Enum", 3, 1, false, "", "", 8⟩]) Tryz.underlying37 (by kernel_rfl) (opensF_cons rfl (by kernel_rfl) (opens_int Tryz.underlying3) (opensF_last rfl (by kernel_rfl) (opens_int Tryz.underlying3)) rfl))) (opensF_cons rfl (by kernel_rfl) (opens_slice Tryz.underlying25 (by kernel_rfl) rfl (opens_struct (fs := [⟨ "Kind", 3, 0, false, "", "", 0⟩, ⟨ "Enum", 3, 1, false, "", "", 8⟩]) Tryz.underlying37 (by kernel_rfl) (opensF_cons rfl (by kernel_rfl) (opens_int Tryz.underlying3) (opensF_last rfl (by kernel_rfl) (opens_int Tryz.underlying3)) rfl))) (opensF_last rfl (by kernel_rfl) (opens_bool Tryz.underlying4)) rfl) rfl) rfl) rfl) rfl))
theorem opens_CellsConstant_28 : Opens Tryz.prog 28 (rSlice (rInt .i64)) (fun xs => ∀ x ∈ xs, InK .i64 x) := (opens_slice Tryz.underlying28 (by kernel_rfl) rfl (opens_int Tryz.underlying3))
theorem own_CellsConstant : ownKnob Tryz.prog.godebug = none := by kernel_rfl
theorem laidOut_CellsConstant : laidOutB Tryz.prog = true := by kernel_rfl
set_option maxRecDepth 100000 in
theorem lifted_CellsConstant (os : Os) (started : os.Started) (H : Type) (enc : TypeId × Value → H) :
    ReturnsInHanded {} Tryz.checked os 3 .any (Rows.cellsConstantSpec.pre6 enc Tryz.prog Tryz.f3 Rows.cellsConstantRow.domain false) (Rows.cellsConstantSpec.post enc Tryz.prog Tryz.f3 false true false false) := by
  refine returnsInHanded_of_change (C := Tryz.checked) own_CellsConstant started (by kernel_rfl) Tryz.func3
    (ChangeSpec.witness6 (enc := enc) (C := Tryz.checked) false ⟨#[], #[.slice none 0 0, .agg #[.slice none 0 0, .slice none 0 0, .slice none 0 0, .slice none 0 0, .slice none 0 0, .bool false], .slice none 0 0, .slice none 0 0], []⟩ 8 (by kernel_rfl) (by kernel_rfl) (by kernel_rfl) (by kernel_rfl)) ?_
  intro W base args ds gs before hval0 hW hcnd _
  have hval : ∀ (j : Nat) t v, Tryz.f3.params[j]? = some t → args[j]? = some v → Value.okWide Tryz.prog W .any base t v := hval0
  have hW' := hW
  obtain ⟨p, q, hA0, hV, rfl, hfz, hnd⟩ := hW
  have hA : DataW.TrodAll enc Tryz.prog W 0 (fun _ => true) true Tryz.f3.params.toList args.toList ds p := hA0
  rw [Tryz.params3] at hA hval
  obtain ⟨v0, vs0, d0, ds0, p0, q0, hargs, rfl, rfl, h0, r0⟩ := trodAll_cons hA
  obtain ⟨v1, vs1, d1, ds1, p1, q1, rfl, rfl, rfl, h1, r1⟩ := trodAll_cons r0
  obtain ⟨v2, vs2, d2, ds2, p2, q2, rfl, rfl, rfl, h2, r2⟩ := trodAll_cons r1
  obtain ⟨v3, vs3, d3, ds3, p3, q3, rfl, rfl, rfl, h3, r3⟩ := trodAll_cons r2
  obtain ⟨rfl, rfl, rfl⟩ := trodAll_nil r3
  obtain rfl : args = #[v0, v1, v2, v3] := by cases args; simp_all
  obtain ⟨rfl, rfl⟩ := trodVars_none hV
  have k0 := h0
  have lt0 : ∀ x ∈ p0, x.block < W.heap.size := by obtain ⟨m, hm⟩ := k0; exact DataW.trod_lt m _ _ _ hm
  obtain ⟨_, _, _, rfl⟩ := okWide_slice Tryz.underlying22 (hval 0 22 v0 rfl rfl)
  obtain ⟨x0, X0, f0⟩ := opens_CellsConstant_22.arg rfl h0
  have k1 := h1
  have lt1 : ∀ x ∈ p1, x.block < W.heap.size := by obtain ⟨m, hm⟩ := k1; exact DataW.trod_lt m _ _ _ hm
  obtain ⟨_, rfl, _⟩ := okWide_struct Tryz.underlying27 (hval 1 27 v1 rfl rfl)
  obtain ⟨x1, X1, f1⟩ := opens_CellsConstant_27.arg rfl h1
  have k2 := h2
  have lt2 : ∀ x ∈ p2, x.block < W.heap.size := by obtain ⟨m, hm⟩ := k2; exact DataW.trod_lt m _ _ _ hm
  obtain ⟨_, _, _, rfl⟩ := okWide_slice Tryz.underlying28 (hval 2 28 v2 rfl rfl)
  obtain ⟨x2, X2, f2⟩ := opens_CellsConstant_28.arg rfl h2
  have k3 := h3
  have lt3 : ∀ x ∈ p3, x.block < W.heap.size := by obtain ⟨m, hm⟩ := k3; exact DataW.trod_lt m _ _ _ hm
  obtain ⟨_, _, _, rfl⟩ := okWide_slice Tryz.underlying28 (hval 3 28 v3 rfl rfl)
  obtain ⟨x3, X3, f3⟩ := opens_CellsConstant_28.arg rfl h3
  clear hA0 hval0
  refine ((law_const x0 x1 x2 x3 (fun d hd => (f0 d hd).2.2) (fun d hd => (f0 d hd).2.1)).calls W (Old W) _ (fun b h => h) ⟨_, _, rfl, X0, _, _, rfl, X1, _, _, rfl, X2, _, _, rfl, X3, rfl⟩).mono fun e W' hR => ?_
  obtain ⟨u, rfl, bel, hu⟩ := hR
  have bel := bel.plain (fun _ h => h)
  have hu : u = .bool true := hu
  subst hu
  exact ⟨_, rfl, _, _, _, [], _, [], hW', trodAll_mk1 (shut_bool Tryz.underlying4 _), (trodAll_cons_mk (Below.trod laidOut_CellsConstant (by kernel_rfl) (of_decide_eq_true (by kernel_rfl)) k0 bel.kit lt0) (trodAll_cons_mk (Below.trod laidOut_CellsConstant (by kernel_rfl) (of_decide_eq_true (by kernel_rfl)) k1 bel.kit lt1) (trodAll_cons_mk (Below.trod laidOut_CellsConstant (by kernel_rfl) (of_decide_eq_true (by kernel_rfl)) k2 bel.kit lt2) (trodAll_cons_mk (Below.trod laidOut_CellsConstant (by kernel_rfl) (of_decide_eq_true (by kernel_rfl)) k3 bel.kit lt3) trodAll_mk0)))), rfl, bel.kit.frame _, fun h => by cases h⟩

theorem over_CellsConstant : Rows.cellsConstantRow.holds Tryz.pinned (OpenSpec.ofChange Rows.cellsConstantSpec) :=
  OpenClaim.holds_of_wide 3 Tryz.f3 rfl rfl rfl rfl rfl rfl rfl ⟨rfl, rfl, rfl, rfl, rfl⟩ rfl rfl rfl rfl rfl (by kernel_rfl) Tryz.func3 (by kernel_rfl)
    (of_decide_eq_true (by kernel_rfl)) (by unfold Func.isWrapper; first | (rw [if_pos (by decide +kernel)]; kernel_rfl) | (rw [if_neg (by decide +kernel)]; exact ⟨rfl, rfl⟩))
    (fun os started H enc _ => lifted_CellsConstant os started H enc)

/-- THE STATEMENT -/
theorem provedCellsConstant : Rows.CellsConstantSaid := over_CellsConstant
#print axioms provedCellsConstant
end Go.Proofs.YtgoggdaohdablaaGreat
