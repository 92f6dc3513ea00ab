/- Whatever the input: the law guerdontop.TopCoverage returns true, and each argument reads behind the call as it read before. No conditions. -/
import Derived.Test.YtehcaebnijlhgaaGreatDoorM3
import Derived.Test.YtehcaebnijlhgaaGreatDoorM20
import Derived.Test.YtehcaebnijlhgaaGreatDoorRows
import Derived.Test.YtehcaebnijlhgaaGreatDoorTie
import Derived.Test.YtehcaebnijlhgaaGreatDoorCards
import Derived.SevenTiedAt
import Derived.LaidLaws
import Derived.Handed
import Derived.Test.YtehcaebnijlhgaaGreatDoorM4
import Derived.Test.YtehcaebnijlhgaaGreatDoorP29y
import Derived.WalkKit
import Derived.ProofKit
import Derived.OpenShut
import Derived.SizedLaws
import Derived.ShutString
import Derived.ChangeOld
import Derived.Below
set_option linter.unusedVariables false
set_option linter.unusedSimpArgs false
namespace Go.Proofs.YtehcaebnijlhgaaGreatDoor
open Go.ChangeShapes Go.WideShapes Go.ChangeAt Go.RowKit Go.Eng
open Go.ChangeMaps (open_string shut_string)
open C15
abbrev QL : cA → Prop := (fun d => (fun xs => xs.length * 40 ≤ reachBytes ∧ ∀ x ∈ xs, (fun d => (fun s => s.length ≤ maxLen) d.1 ∧ (fun xs => xs.length * 16 ≤ reachBytes ∧ ∀ x ∈ xs, (fun s => s.length ≤ maxLen) x) d.2) x) d.1 ∧ (fun d => (fun xs => xs.length * 72 ≤ reachBytes ∧ ∀ x ∈ xs, (fun d => (fun s => s.length ≤ maxLen) d.1 ∧ (fun d => (fun d => InK .i64 d.1 ∧ InK .i64 d.2) d.1 ∧ (fun d => (fun d => InK .i64 d.1 ∧ InK .i64 d.2) d.1 ∧ (fun xs => xs.length * 40 ≤ reachBytes ∧ ∀ x ∈ xs, (fun d => (fun d => InK .i64 d.1 ∧ InK .i64 d.2) d.1 ∧ (fun d => InK .i64 d.1 ∧ (fun d => InK .i64 d.1 ∧ InK .i64 d.2) d.2) d.2) x) d.2) d.2) d.2) x) d.1 ∧ (fun xs => xs.length * 96 ≤ reachBytes ∧ ∀ x ∈ xs, (fun d => (fun s => s.length ≤ maxLen) d.1 ∧ (fun d => InK .i64 d.1 ∧ (fun d => (fun xs => xs.length * 32 ≤ reachBytes ∧ ∀ x ∈ xs, (fun d => (fun s => s.length ≤ maxLen) d.1 ∧ (fun d => InK .i64 d.1 ∧ InK .i64 d.2) d.2) x) d.1 ∧ (fun d => (fun xs => xs.length * 32 ≤ reachBytes ∧ ∀ x ∈ xs, (fun d => (fun s => s.length ≤ maxLen) d.1 ∧ (fun d => InK .i64 d.1 ∧ InK .i64 d.2) d.2) x) d.1 ∧ (fun xs => xs.length * 120 ≤ reachBytes ∧ ∀ x ∈ xs, (fun d => (fun s => s.length ≤ maxLen) d.1 ∧ (fun d => InK .i64 d.1 ∧ (fun d => InK .i64 d.1 ∧ (fun d => InK .i64 d.1 ∧ (fun d => (fun d => InK .i64 d.1 ∧ InK .i64 d.2) d.1 ∧ (fun d => (fun xs => xs.length * 16 ≤ reachBytes ∧ ∀ x ∈ xs, (fun d => InK .i64 d.1 ∧ InK .i64 d.2) x) d.1 ∧ (fun d => (fun xs => xs.length * 16 ≤ reachBytes ∧ ∀ x ∈ xs, (fun d => InK .i64 d.1 ∧ InK .i64 d.2) x) d.1 ∧ (fun s => s.length ≤ maxLen) d.2) d.2) d.2) d.2) d.2) d.2) d.2) x) d.2) d.2) d.2) d.2) x) d.2) d.2)
theorem wl_of {l : cA} (h : QL l) : WL l := by
  refine ⟨fun t ht => ?_, fun s hs => ?_⟩
  · have := (h.2.1.2 t ht).2.2.2.1; unfold reachBytes at this; omega
  have := (h.2.2.2 s hs).2.2.2.2.1; unfold reachBytes at this; omega
theorem wm {n : Int} (h : InK .i64 n) : -9223372036854775808 ≤ n ∧ n ≤ 9223372036854775807 := h
theorem nm_of {l : cA} (h : QL l) : o3 l := by
  refine ⟨fun t ht x hx => ?_, fun s hs r hr => ?_⟩
  · have q := (h.2.1.2 t ht).2.2.2.2 x hx
    exact ⟨(wm q.2.1).1, (wm q.2.2.1).2⟩
  have q := (h.2.2.2 s hs).2.2.2.2.2 r hr
  exact ⟨fun d hd => wm (q.2.2.2.2.2.1.2 d hd).2, fun d hd => wm (q.2.2.2.2.2.2.1.2 d hd).2⟩
theorem lj : OpensW Tryz.prog 26 cz QL := (cd (fs := [⟨ "Enums", 22, 0, false, "", "", 0⟩, ⟨ "Tables", 23, 1, false, "", "", 24⟩, ⟨ "Scopes", 24, 2, false, "", "", 48⟩]) Tryz.underlying26 (by kernel_rfl) (bt rfl (by kernel_rfl) (cR (b := 40) Tryz.underlying22 (by kernel_rfl) rfl (by kernel_rfl) (cd (fs := [⟨ "Name", 9, 0, false, "", "", 0⟩, ⟨ "Members", 154, 1, false, "", "", 16⟩]) Tryz.underlying156 (by kernel_rfl) (bt rfl (by kernel_rfl) (Opens.toW (fV Tryz.underlying9)) (ck rfl (by kernel_rfl) (cR (b := 16) Tryz.underlying154 (by kernel_rfl) rfl (by kernel_rfl) (Opens.toW (fV Tryz.underlying9)))) rfl))) (bt rfl (by kernel_rfl) (cR (b := 72) Tryz.underlying23 (by kernel_rfl) rfl (by kernel_rfl) (cd (fs := [⟨ "Name", 9, 0, false, "", "", 0⟩, ⟨ "Key", 90, 1, false, "", "", 16⟩, ⟨ "Value", 90, 3, false, "", "", 32⟩, ⟨ "Rows", 157, 5, false, "", "", 48⟩]) Tryz.underlying159 (by kernel_rfl) (bt rfl (by kernel_rfl) (Opens.toW (fV Tryz.underlying9)) (bt rfl (by kernel_rfl) (cd (fs := [⟨ "Kind", 3, 0, false, "", "", 0⟩, ⟨ "Enum", 3, 1, false, "", "", 8⟩]) Tryz.underlying90 (by kernel_rfl) (bt rfl (by kernel_rfl) (Opens.toW (cg Tryz.underlying3)) (ck rfl (by kernel_rfl) (Opens.toW (cg Tryz.underlying3))) rfl)) (bt rfl (by kernel_rfl) (cd (fs := [⟨ "Kind", 3, 0, false, "", "", 0⟩, ⟨ "Enum", 3, 1, false, "", "", 8⟩]) Tryz.underlying90 (by kernel_rfl) (bt rfl (by kernel_rfl) (Opens.toW (cg Tryz.underlying3)) (ck rfl (by kernel_rfl) (Opens.toW (cg Tryz.underlying3))) rfl)) (ck rfl (by kernel_rfl) (cR (b := 40) Tryz.underlying157 (by kernel_rfl) rfl (by kernel_rfl) (cd (fs := [⟨ "Valid", 63, 0, false, "", "", 0⟩, ⟨ "Lo", 3, 2, false, "", "", 16⟩, ⟨ "Hi", 3, 3, false, "", "", 24⟩, ⟨ "N", 3, 4, false, "", "", 32⟩]) Tryz.underlying65 (by kernel_rfl) (bt rfl (by kernel_rfl) (cd (fs := [⟨ "From", 3, 0, false, "", "", 0⟩, ⟨ "To", 3, 1, false, "", "", 8⟩]) Tryz.underlying63 (by kernel_rfl) (bt rfl (by kernel_rfl) (Opens.toW (cg Tryz.underlying3)) (ck rfl (by kernel_rfl) (Opens.toW (cg Tryz.underlying3))) rfl)) (bt rfl (by kernel_rfl) (Opens.toW (cg Tryz.underlying3)) (bt rfl (by kernel_rfl) (Opens.toW (cg Tryz.underlying3)) (ck rfl (by kernel_rfl) (Opens.toW (cg Tryz.underlying3))) rfl) rfl) rfl)))) rfl) rfl) rfl))) (ck rfl (by kernel_rfl) (cR (b := 96) Tryz.underlying24 (by kernel_rfl) rfl (by kernel_rfl) (cd (fs := [⟨ "Name", 9, 0, false, "", "", 0⟩, ⟨ "MemberScope", 3, 1, false, "", "", 16⟩, ⟨ "Inputs", 78, 2, false, "", "", 24⟩, ⟨ "Defs", 78, 3, false, "", "", 48⟩, ⟨ "Rules", 79, 4, false, "", "", 72⟩]) Tryz.underlying81 (by kernel_rfl) (bt rfl (by kernel_rfl) (Opens.toW (fV Tryz.underlying9)) (bt rfl (by kernel_rfl) (Opens.toW (cg Tryz.underlying3)) (bt rfl (by kernel_rfl) (cR (b := 32) Tryz.underlying78 (by kernel_rfl) rfl (by kernel_rfl) (cd (fs := [⟨ "Name", 9, 0, false, "", "", 0⟩, ⟨ "Type", 90, 1, false, "", "", 16⟩]) Tryz.underlying92 (by kernel_rfl) (bt rfl (by kernel_rfl) (Opens.toW (fV Tryz.underlying9)) (ck rfl (by kernel_rfl) (cd (fs := [⟨ "Kind", 3, 0, false, "", "", 0⟩, ⟨ "Enum", 3, 1, false, "", "", 8⟩]) Tryz.underlying90 (by kernel_rfl) (bt rfl (by kernel_rfl) (Opens.toW (cg Tryz.underlying3)) (ck rfl (by kernel_rfl) (Opens.toW (cg Tryz.underlying3))) rfl))) rfl))) (bt rfl (by kernel_rfl) (cR (b := 32) Tryz.underlying78 (by kernel_rfl) rfl (by kernel_rfl) (cd (fs := [⟨ "Name", 9, 0, false, "", "", 0⟩, ⟨ "Type", 90, 1, false, "", "", 16⟩]) Tryz.underlying92 (by kernel_rfl) (bt rfl (by kernel_rfl) (Opens.toW (fV Tryz.underlying9)) (ck rfl (by kernel_rfl) (cd (fs := [⟨ "Kind", 3, 0, false, "", "", 0⟩, ⟨ "Enum", 3, 1, false, "", "", 8⟩]) Tryz.underlying90 (by kernel_rfl) (bt rfl (by kernel_rfl) (Opens.toW (cg Tryz.underlying3)) (ck rfl (by kernel_rfl) (Opens.toW (cg Tryz.underlying3))) rfl))) rfl))) (ck rfl (by kernel_rfl) (cR (b := 120) Tryz.underlying79 (by kernel_rfl) rfl (by kernel_rfl) (cd (fs := [⟨ "Name", 9, 0, false, "", "", 0⟩, ⟨ "Def", 3, 1, false, "", "", 16⟩, ⟨ "Parent", 3, 2, false, "", "", 24⟩, ⟨ "Priority", 3, 3, false, "", "", 32⟩, ⟨ "Valid", 63, 4, false, "", "", 40⟩, ⟨ "Guard", 61, 6, false, "", "", 56⟩, ⟨ "Value", 61, 7, false, "", "", 80⟩, ⟨ "Source", 9, 8, false, "", "", 104⟩]) Tryz.underlying120 (by kernel_rfl) (bt rfl (by kernel_rfl) (Opens.toW (fV Tryz.underlying9)) (bt rfl (by kernel_rfl) (Opens.toW (cg Tryz.underlying3)) (bt rfl (by kernel_rfl) (Opens.toW (cg Tryz.underlying3)) (bt rfl (by kernel_rfl) (Opens.toW (cg Tryz.underlying3)) (bt rfl (by kernel_rfl) (cd (fs := [⟨ "From", 3, 0, false, "", "", 0⟩, ⟨ "To", 3, 1, false, "", "", 8⟩]) Tryz.underlying63 (by kernel_rfl) (bt rfl (by kernel_rfl) (Opens.toW (cg Tryz.underlying3)) (ck rfl (by kernel_rfl) (Opens.toW (cg Tryz.underlying3))) rfl)) (bt rfl (by kernel_rfl) (cR (b := 16) Tryz.underlying61 (by kernel_rfl) rfl (by kernel_rfl) (cd (fs := [⟨ "Op", 3, 0, false, "", "", 0⟩, ⟨ "N", 3, 1, false, "", "", 8⟩]) Tryz.underlying163 (by kernel_rfl) (bt rfl (by kernel_rfl) (Opens.toW (cg Tryz.underlying3)) (ck rfl (by kernel_rfl) (Opens.toW (cg Tryz.underlying3))) rfl))) (bt rfl (by kernel_rfl) (cR (b := 16) Tryz.underlying61 (by kernel_rfl) rfl (by kernel_rfl) (cd (fs := [⟨ "Op", 3, 0, false, "", "", 0⟩, ⟨ "N", 3, 1, false, "", "", 8⟩]) Tryz.underlying163 (by kernel_rfl) (bt rfl (by kernel_rfl) (Opens.toW (cg Tryz.underlying3)) (ck rfl (by kernel_rfl) (Opens.toW (cg Tryz.underlying3))) rfl))) (ck rfl (by kernel_rfl) (Opens.toW (fV Tryz.underlying9))) rfl) rfl) rfl) rfl) rfl) rfl) rfl)))) rfl) rfl) rfl) rfl)))) rfl) rfl))
theorem li : OpensW Tryz.prog 30 ej (fun d => InK .i64 d.1 ∧ (fun d => (fun xs => xs.length * 24 ≤ reachBytes ∧ ∀ x ∈ xs, (fun d => InK .i64 d.1 ∧ (fun d => InK .i64 d.1 ∧ InK .i64 d.2) d.2) x) d.1 ∧ (fun xs => xs.length * 24 ≤ reachBytes ∧ ∀ x ∈ xs, (fun xs => xs.length * 24 ≤ reachBytes ∧ ∀ x ∈ xs, (fun d => InK .i64 d.1 ∧ (fun d => InK .i64 d.1 ∧ InK .i64 d.2) d.2) x) x) d.2) d.2) := (cd (fs := [⟨ "Date", 3, 0, false, "", "", 0⟩, ⟨ "Inputs", 27, 1, false, "", "", 8⟩, ⟨ "Members", 28, 2, false, "", "", 32⟩]) Tryz.underlying30 (by kernel_rfl) (bt rfl (by kernel_rfl) (Opens.toW (cg Tryz.underlying3)) (bt rfl (by kernel_rfl) (cR (b := 24) Tryz.underlying27 (by kernel_rfl) rfl (by kernel_rfl) (cd (fs := [⟨ "Kind", 3, 0, false, "", "", 0⟩, ⟨ "Enum", 3, 1, false, "", "", 8⟩, ⟨ "N", 3, 2, false, "", "", 16⟩]) Tryz.underlying183 (by kernel_rfl) (bt rfl (by kernel_rfl) (Opens.toW (cg Tryz.underlying3)) (bt rfl (by kernel_rfl) (Opens.toW (cg Tryz.underlying3)) (ck rfl (by kernel_rfl) (Opens.toW (cg Tryz.underlying3))) rfl) rfl))) (ck rfl (by kernel_rfl) (cR (b := 24) Tryz.underlying28 (by kernel_rfl) rfl (by kernel_rfl) (cR (b := 24) Tryz.underlying27 (by kernel_rfl) rfl (by kernel_rfl) (cd (fs := [⟨ "Kind", 3, 0, false, "", "", 0⟩, ⟨ "Enum", 3, 1, false, "", "", 8⟩, ⟨ "N", 3, 2, false, "", "", 16⟩]) Tryz.underlying183 (by kernel_rfl) (bt rfl (by kernel_rfl) (Opens.toW (cg Tryz.underlying3)) (bt rfl (by kernel_rfl) (Opens.toW (cg Tryz.underlying3)) (ck rfl (by kernel_rfl) (Opens.toW (cg Tryz.underlying3))) rfl) rfl))))) rfl) rfl))
theorem oV : ownKnob Tryz.prog.godebug = none := by kernel_rfl
theorem iE : laidOutB Tryz.prog = true := by kernel_rfl
noncomputable def rf (os : Os) : World :=
  { World.holding Tryz.prog os ⟨#[], #[], []⟩ with heap := (World.holding Tryz.prog os ⟨#[], #[], []⟩).heap.modify 3 fun
      | .cells _ t frozen => .cells #[.int .i64 31, .int .i64 28, .int .i64 31, .int .i64 30, .int .i64 31, .int .i64 30, .int .i64 31, .int .i64 31, .int .i64 30, .int .i64 31, .int .i64 30, .int .i64 31] t frozen
      | o => o }
theorem zT (os : Os) (args : Array Value) : laidMet Tryz.prog Rows.topCoverageRow.laid ((rf os).forCall (fun _ _ => 0) ⟨#[], args, []⟩).memory :=
  laidMet_of_run (ps := [.cell 3 0, .cell 3 1, .cell 3 2, .cell 3 3, .cell 3 4, .cell 3 5, .cell 3 6, .cell 3 7, .cell 3 8, .cell 3 9, .cell 3 10, .cell 3 11]) 8 (by kernel_rfl) (by kernel_rfl) (by kernel_rfl)
set_option maxRecDepth 100000 in
theorem mw (os : Os) (started : os.Started) (H : Type) (enc : TypeId × Value → H) :
    ReturnsInHanded {} Tryz.checked os 3 .any (fun w args => (Rows.topCoverageSpec.pre enc Tryz.prog Tryz.f3 Rows.topCoverageRow.domain false w args ∧ laidMet Tryz.prog Rows.topCoverageRow.laid w) ∧ sizedMet enc Tryz.prog Tryz.f3 (OpenSpec.ofChange Rows.topCoverageSpec) false w args) (Rows.topCoverageSpec.post enc Tryz.prog Tryz.f3 false true false false) := by
  refine returnsInHanded_of_change_and (C := Tryz.checked) (X := fun w _ => laidMet Tryz.prog Rows.topCoverageRow.laid w) (fun _ _ _ hh h => laidMet.of_heap hh h) oV started (by kernel_rfl) Tryz.func3
    (ChangeSpec.witness_at (enc := enc) (C := Tryz.checked) (os := os) (X := fun w _ => laidMet Tryz.prog Rows.topCoverageRow.laid w) false (rf os) #[.agg #[.slice none 0 0, .slice none 0 0, .slice none 0 0], .int .i64 0, .agg #[.int .i64 0, .slice none 0 0, .slice none 0 0], .int .i64 0] 8 rfl (by kernel_rfl) (by kernel_rfl) (by kernel_rfl) (by kernel_rfl) (by kernel_rfl) (zT os _)) ?_
  intro W base args ds gs before hval0 hW hcnd hwt0 _ _
  have hval : ∀ (j : Nat) t v, Tryz.f3.params[j]? = some t → args[j]? = some v → Value.okWide Tryz.prog W .any base t v := hval0
  have hW' := hW
  obtain ⟨p, q, hA0, hV, rfl, hfz, hnd⟩ := hW
  have hA : DataW.TrodAll enc Tryz.prog W 0 (fun _ => true) true Tryz.f3.params.toList args.toList ds p := hA0
  rw [Tryz.params3] at hA hval
  obtain ⟨v0, vs0, d0, ds0, p0, q0, hargs, rfl, rfl, h0, r0⟩ := trodAll_cons hA
  obtain ⟨v1, vs1, d1, ds1, p1, q1, rfl, rfl, rfl, h1, r1⟩ := trodAll_cons r0
  obtain ⟨v2, vs2, d2, ds2, p2, q2, rfl, rfl, rfl, h2, r2⟩ := trodAll_cons r1
  obtain ⟨v3, vs3, d3, ds3, p3, q3, rfl, rfl, rfl, h3, r3⟩ := trodAll_cons r2
  obtain ⟨rfl, rfl, rfl⟩ := trodAll_nil r3
  obtain rfl : args = #[v0, v1, v2, v3] := by cases args; simp_all
  obtain ⟨rfl, rfl⟩ := trodVars_none hV
  rw [Tryz.params3] at hwt0
  have hwt : (DataW.weightsEach Tryz.prog [26, 3, 30, 3] [d0, d1, d2, d3]).all (fun x => decide (x ≤ reachBytes)) = true := hwt0
  have k0 := h0
  have lt0 : ∀ x ∈ p0, x.block < W.heap.size := by obtain ⟨m, hm⟩ := k0; exact DataW.trod_lt m _ _ _ hm
  obtain ⟨_, rfl, _⟩ := okWide_struct Tryz.underlying26 (hval 0 26 v0 rfl rfl)
  have hw0 : ∀ m ∈ DataW.weights Tryz.prog 26 d0, m ≤ reachBytes := fun m hm => by
    have := List.all_eq_true.1 hwt m (by simp only [DataW.weightsEach, List.mem_append]; exact .inl hm)
    simpa using this
  obtain ⟨x0, X0, f0⟩ := lj.arg rfl h0 hw0
  obtain ⟨a1, rfl, rfl, rfl, w1⟩ := open_int Tryz.underlying3 (hval 1 3 v1 rfl rfl) h1
  have k2 := h2
  have lt2 : ∀ x ∈ p2, x.block < W.heap.size := by obtain ⟨m, hm⟩ := k2; exact DataW.trod_lt m _ _ _ hm
  obtain ⟨_, rfl, _⟩ := okWide_struct Tryz.underlying30 (hval 2 30 v2 rfl rfl)
  have hw2 : ∀ m ∈ DataW.weights Tryz.prog 30 d2, m ≤ reachBytes := fun m hm => by
    have := List.all_eq_true.1 hwt m (by simp only [DataW.weightsEach, List.mem_append]; exact .inr (.inr (.inl hm)))
    simpa using this
  obtain ⟨x2, X2, f2⟩ := li.arg rfl h2 hw2
  obtain ⟨a3, rfl, rfl, rfl, w3⟩ := open_int Tryz.underlying3 (hval 3 3 v3 rfl rfl) h3
  clear hA0 hval0 hwt0
  refine ((xd x0 a1 x2 a3 (wl_of f0) (nm_of f0)).calls W (Old W) _ (fun b h => h) ⟨_, _, rfl, X0, _, _, rfl, rfl, _, _, rfl, X2, _, _, rfl, rfl, rfl⟩).mono fun e W' hR => ?_
  obtain ⟨u, rfl, bel, hu⟩ := hR
  have bel := bel.plain (fun _ h => h)
  have hu : u = .bool true := hu
  subst hu
  exact ⟨_, rfl, _, _, _, [], _, [], hW', trodAll_mk1 (shut_bool Tryz.underlying4 _), (trodAll_cons_mk (Below.trod iE (by kernel_rfl) (of_decide_eq_true (by kernel_rfl)) k0 bel.kit lt0) (trodAll_cons_mk (shut_int Tryz.underlying3 w1) (trodAll_cons_mk (Below.trod iE (by kernel_rfl) (of_decide_eq_true (by kernel_rfl)) k2 bel.kit lt2) (trodAll_cons_mk (shut_int Tryz.underlying3 w3) trodAll_mk0)))), rfl, bel.kit.frame _, fun h => by cases h⟩
theorem n8 : Rows.topCoverageRow.holds Tryz.pinned (OpenSpec.ofChange Rows.topCoverageSpec) :=
  OpenClaim.holds_of_wide 3 Tryz.f3 rfl rfl rfl rfl rfl rfl rfl ⟨rfl, rfl, rfl, rfl, rfl⟩ rfl rfl rfl rfl rfl (by kernel_rfl) Tryz.func3 qf
    (of_decide_eq_true (by kernel_rfl)) (by unfold Func.isWrapper; first | (rw [if_pos (by decide +kernel)]; kernel_rfl) | (rw [if_neg (by decide +kernel)]; exact ⟨rfl, rfl⟩))
    (fun os started H enc _ => mw os started H enc)
theorem provedTopCoverage : Rows.TopCoverageCardSaid :=
  Claim7.holds_tied_plain_at .later [] [.data] true (true, "4885ae05ba00d3fea30f82be44bac80edc09ce34c695643023f316694ef41c10") true
    n8 (fun _ h => by cases h) (by kernel_rfl) (fun _ h => by cases h) topCoverage_row_tie rfl ⟨rfl, rfl⟩ (by kernel_rfl) rfl
    (fun f fn hf hfn => by
      obtain rfl : f = 3 := Option.some.inj ((show Tryz.prog.funcNamed "guerdon/guerdontop.TopCoverage" = some 3 by kernel_rfl).symm.trans hf) |>.symm
      obtain rfl : fn = Tryz.f3 := (Option.some.inj (Tryz.func3.symm.trans hfn)).symm
      exact ⟨by kernel_rfl, fun j t ht => by
        rw [Tryz.params3] at ht
        have h3 : t = 3 ∨ t = 26 ∨ t = 30 := by
          rcases j with _ | (_ | (_ | _ | j))
          · simp at ht; subst ht; first | exact .inl rfl | exact .inr (.inl rfl) | exact .inr (.inr rfl) | exact .inr (.inr (.inr rfl))
          · simp at ht; subst ht; first | exact .inl rfl | exact .inr (.inl rfl) | exact .inr (.inr rfl) | exact .inr (.inr (.inr rfl))
          · simp at ht; subst ht; first | exact .inl rfl | exact .inr (.inl rfl) | exact .inr (.inr rfl) | exact .inr (.inr (.inr rfl))
          · simp at ht; subst ht; first | exact .inl rfl | exact .inr (.inl rfl) | exact .inr (.inr rfl) | exact .inr (.inr (.inr rfl))
          simp at ht
        rcases h3 with rfl | rfl | rfl
        · exact (show Tryz.prog.wantsStandIn 3 = false by kernel_rfl)
        · exact (show Tryz.prog.wantsStandIn 26 = false by kernel_rfl)
        exact (show Tryz.prog.wantsStandIn 30 = false by kernel_rfl)⟩)
    (by kernel_rfl)
#print axioms provedTopCoverage
end Go.Proofs.YtehcaebnijlhgaaGreatDoor
