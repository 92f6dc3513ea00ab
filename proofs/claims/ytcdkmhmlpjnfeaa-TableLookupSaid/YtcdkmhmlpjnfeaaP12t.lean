import Derived.Test.YtcdkmhmlpjnfeaaP12s
import Derived.Test.YtcdkmhmlpjnfeaaP12i
namespace Go.Proofs.Ytcdkmhmlpjnfeaa
open Go.Eng
set_option maxRecDepth 100000
set_option maxHeartbeats 4000000
set_option linter.unusedVariables false
set_option linter.unusedSimpArgs false


def tA : TTable := ([], (3, 0), (4, 0), [((0, 109573), 0, 10000, 100000), ((0, 109573), 10000, 1000000000000001, 200000)])
def tB : TTable := ([], (3, 0), (4, 0), [((0, 109573), 0, 10, 0), ((0, 109573), 20, 30, 0)])
def tC : TTable := ([], (3, 0), (4, 0), [((0, 109573), 0, 10, 0), ((0, 109573), 5, 7, 0)])
theorem tA_N : ∀ x ∈ tA.2.2.2, -9223372036854775808 ≤ x.2.2.2 ∧ x.2.2.2 ≤ 9223372036854775807 := by intro x hx; simp [tA] at hx; rcases hx with rfl | rfl <;> simp
theorem tA_K : ∀ x ∈ tA.2.2.2, KeyI x := by intro x hx; simp [tA] at hx; rcases hx with rfl | rfl <;> simp [KeyI]
theorem exA1 : Ct Try.prog 21 [.tv rTable tA, .raw (.int .i64 45000), .raw (.int .i64 15000), .raw (.int .i64 4)] (.tup2 (.raw (.int .i64 2000)) (.raw (.int .i64 0))) := by
  have h := brackets_ok tA 45000 15000 4 (by decide) tA_N
  rwa [show brackR tA 45000 15000 4 = (2000, 0) from by decide +kernel] at h
theorem exA2 : Ct Try.prog 18 [.tv rTable tA, .raw (.int .i64 45000), .raw (.int .i64 10000)] (.tup2 (.raw (.int .i64 1)) (.raw (.bool true))) := by
  have h := lookup_ok tA 45000 10000
  rwa [show firstL (matchR 45000 10000) tA.2.2.2 0 = (1, true) from by decide +kernel] at h
theorem exA3 : Ct Try.prog 13 [.tv rTable tA, .tv (rSlice rEnum) []] (.tup2 (.raw (.int .i64 0)) (.raw (.int .i64 0))) := by
  have h := validate_ok tA [] tA_K
  rwa [show valR tA [] = (0, 0) from by decide +kernel] at h
theorem exB : Ct Try.prog 17 [.tv rTable tB, .raw (.int .i64 45000), .raw (.int .i64 5), .raw (.int .i64 25)] (.tv (rSlice rKeyRange) [(10, 20)]) := by
  have h := uncov_ok tB 45000 5 25 (by decide)
  rwa [show uncR 45000 5 25 tB.2.2.2 = [(10, 20)] from by decide +kernel] at h
theorem exC : Ct Try.prog 15 [.tv rTable tC] (.tup3 (.raw (.int .i64 0)) (.raw (.int .i64 1)) (.raw (.bool true))) := by
  have h := fconf_ok tC (by decide)
  rwa [show fconf tC.2.2.2 tC.2.2.2.length = (0, 1, true) from by decide +kernel] at h

theorem awake_ok  : Ct Try.prog 12 [] (.raw (.bool true)) := by
  refine ct_intro Try.func12 rfl rfl Try.ntmps12 rfl rfl ?_
  intro w0 ok0
  refine j_seq ?_
  refine j_region ?_
  refine jg_adr _ rfl _ rfl rfl (op_assign (.base rfl)) ?_
  refine jg_nil ?_
  refine jn_keep [] [] .nil .nil ?_
  refine jn_seq (j_seq ?_)
  refine j_region ?_
  refine jg_adr _ rfl _ rfl rfl (op_build z50 rfl pl50 (.cons (rt' := (rInt .i64)) rfl ln50_1 (.raw (.base rfl) rfl) (.cons (rt' := (rInt .i64)) rfl ln50_2 (.raw (.base rfl) rfl) (.cons (rt' := (rInt .i64)) rfl ln50_3 (.raw (.base rfl) rfl) .nil)))) ?_
  refine jg_adr _ rfl _ rfl rfl (op_build z50 rfl pl50 (.cons (rt' := (rInt .i64)) rfl ln50_1 (.raw (.base rfl) rfl) (.cons (rt' := (rInt .i64)) rfl ln50_2 (.raw (.base rfl) rfl) (.cons (rt' := (rInt .i64)) rfl ln50_3 (.raw (.base rfl) rfl) .nil)))) ?_
  refine jg_os _ rfl (op_obslice (rt := rRow) (ds := [((0, 0), 0, 10000, 100000), ((0, 0), 10000, 1000000000000001, 200000)]) Try.underlying24 ty50 z50 rfl (.cons (.tv (.base rfl)) (.cons (.tv (.base rfl)) .nil)) rfl rfl rfl rfl rfl) ?_
  refine jg_os _ rfl (op_callS (r := .tv rTable tA) (schedule_ok [((0, 0), 0, 10000, 100000), ((0, 0), 10000, 1000000000000001, 200000)]) (.base rfl) rfl rfl (by simp) rfl rfl [] (SubS_nil) rfl) ?_
  refine jg_os _ rfl (op_alloc _ z26 rfl rfl rfl) ?_
  refine jg_os _ rfl (op_ostore ty26 (.base rfl) rfl rfl (Lens.id _) (.tv (.base rfl))) ?_
  refine jg_nil ?_
  refine jn_keep [1] [1] (.cons rfl .nil) (.cons rfl .nil) ?_
  refine jn_seq (j_seq ?_)
  refine j_region ?_
  refine jg_adr _ rfl _ rfl rfl (op_oload ty26 (.base rfl) rfl rfl (Lens.id _)) ?_
  refine jg_adr _ rfl _ rfl rfl (op_call exA1 (.cons (.base rfl) (.cons (.base rfl) (.cons (.base rfl) (.cons (.base rfl) .nil)))) rfl rfl) ?_
  refine jg_adr _ rfl _ rfl rfl (op_move (.base rfl)) ?_
  refine jg_adr _ rfl _ rfl rfl (op_ext20 (.base rfl)) ?_
  refine jg_adr _ rfl _ rfl rfl (op_ext21 (.base rfl)) ?_
  refine jg_adr _ rfl _ rfl rfl (op_assign (.base rfl)) ?_
  refine jg_adr _ rfl _ rfl rfl (op_assign (.base rfl)) ?_
  refine jg_nil ?_
  refine jn_keep [1, 2, 3] [1] (.cons rfl (.cons rfl (.cons rfl .nil))) (.cons rfl .nil) ?_
  refine jn_seq (j_seq ?_)
  refine j_region ?_
  refine jg_adr _ rfl _ rfl rfl (op_oload ty26 (.base rfl) rfl rfl (Lens.id _)) ?_
  refine jg_adr _ rfl _ rfl rfl (op_call exA2 (.cons (.base rfl) (.cons (.base rfl) (.cons (.base rfl) .nil))) rfl rfl) ?_
  refine jg_adr _ rfl _ rfl rfl (op_move (.base rfl)) ?_
  refine jg_adr _ rfl _ rfl rfl (op_ext20 (.base rfl)) ?_
  refine jg_adr _ rfl _ rfl rfl (op_ext21 (.base rfl)) ?_
  refine jg_adr _ rfl _ rfl rfl (op_assign (.base rfl)) ?_
  refine jg_adr _ rfl _ rfl rfl (op_assign (.base rfl)) ?_
  refine jg_nil ?_
  refine jn_keep [1, 2, 3, 4, 5] [1] (.cons rfl (.cons rfl (.cons rfl (.cons rfl (.cons rfl .nil))))) (.cons rfl .nil) ?_
  refine jn_seq (j_seq ?_)
  refine j_region ?_
  refine jg_adr _ rfl _ rfl rfl (op_oload ty26 (.base rfl) rfl rfl (Lens.id _)) ?_
  refine jg_adr _ rfl _ rfl rfl (op_call exA3 (.cons (.base rfl) (.nilS (.base rfl) .nil)) rfl rfl) ?_
  refine jg_adr _ rfl _ rfl rfl (op_move (.base rfl)) ?_
  refine jg_adr _ rfl _ rfl rfl (op_ext20 (.base rfl)) ?_
  refine jg_adr _ rfl _ rfl rfl (op_ext21 (.base rfl)) ?_
  refine jg_adr _ rfl _ rfl rfl (op_assign (.base rfl)) ?_
  refine jg_adr _ rfl _ rfl rfl (op_assign (.base rfl)) ?_
  refine jg_nil ?_
  refine jn_keep [2, 3, 4, 5, 7] [] (.cons rfl (.cons rfl (.cons rfl (.cons rfl (.cons rfl .nil))))) .nil ?_
  refine jn_seq (j_seq ?_)
  refine j_region ?_
  refine jg_adr _ rfl _ rfl rfl (op_build z50 rfl pl50 (.cons (rt' := (rInt .i64)) rfl ln50_1 (.raw (.base rfl) rfl) (.cons (rt' := (rInt .i64)) rfl ln50_2 (.raw (.base rfl) rfl) .nil))) ?_
  refine jg_adr _ rfl _ rfl rfl (op_build z50 rfl pl50 (.cons (rt' := (rInt .i64)) rfl ln50_1 (.raw (.base rfl) rfl) (.cons (rt' := (rInt .i64)) rfl ln50_2 (.raw (.base rfl) rfl) .nil))) ?_
  refine jg_os _ rfl (op_obslice (rt := rRow) (ds := [((0, 0), 0, 10, 0), ((0, 0), 20, 30, 0)]) Try.underlying24 ty50 z50 rfl (.cons (.tv (.base rfl)) (.cons (.tv (.base rfl)) .nil)) rfl rfl rfl rfl rfl) ?_
  refine jg_os _ rfl (op_callS (r := .tv rTable tB) (schedule_ok [((0, 0), 0, 10, 0), ((0, 0), 20, 30, 0)]) (.base rfl) rfl rfl (by simp) rfl rfl [(2, .raw (.int .i64 2000)), (3, .raw (.int .i64 0)), (4, .raw (.int .i64 1)), (5, .raw (.bool true)), (7, .raw (.int .i64 0))] (SubS_cons rfl rfl (SubS_cons rfl rfl (SubS_cons rfl rfl (SubS_cons rfl rfl (SubS_cons rfl rfl (SubS_nil)))))) rfl) ?_
  refine jg_adr _ rfl _ rfl rfl (op_call exB (.cons (.base rfl) (.cons (.base rfl) (.cons (.base rfl) (.cons (.base rfl) .nil)))) rfl rfl) ?_
  refine jg_adr _ rfl _ rfl rfl (op_assign (.base rfl)) ?_
  refine jg_nil ?_
  refine jn_keep [2, 3, 4, 5, 7, 8] [] (.cons rfl (.cons rfl (.cons rfl (.cons rfl (.cons rfl (.cons rfl .nil)))))) .nil ?_
  refine jn_seq (j_seq ?_)
  refine j_region ?_
  refine jg_adr _ rfl _ rfl rfl (op_build z50 rfl pl50 (.cons (rt' := (rInt .i64)) rfl ln50_1 (.raw (.base rfl) rfl) (.cons (rt' := (rInt .i64)) rfl ln50_2 (.raw (.base rfl) rfl) .nil))) ?_
  refine jg_adr _ rfl _ rfl rfl (op_build z50 rfl pl50 (.cons (rt' := (rInt .i64)) rfl ln50_1 (.raw (.base rfl) rfl) (.cons (rt' := (rInt .i64)) rfl ln50_2 (.raw (.base rfl) rfl) .nil))) ?_
  refine jg_os _ rfl (op_obslice (rt := rRow) (ds := [((0, 0), 0, 10, 0), ((0, 0), 5, 7, 0)]) Try.underlying24 ty50 z50 rfl (.cons (.tv (.base rfl)) (.cons (.tv (.base rfl)) .nil)) rfl rfl rfl rfl rfl) ?_
  refine jg_os _ rfl (op_callS (r := .tv rTable tC) (schedule_ok [((0, 0), 0, 10, 0), ((0, 0), 5, 7, 0)]) (.base rfl) rfl rfl (by simp) rfl rfl [(2, .raw (.int .i64 2000)), (3, .raw (.int .i64 0)), (4, .raw (.int .i64 1)), (5, .raw (.bool true)), (7, .raw (.int .i64 0)), (8, .tv (rSlice rKeyRange) [(10, 20)])] (SubS_cons rfl rfl (SubS_cons rfl rfl (SubS_cons rfl rfl (SubS_cons rfl rfl (SubS_cons rfl rfl (SubS_cons rfl rfl (SubS_nil))))))) rfl) ?_
  refine jg_adr _ rfl _ rfl rfl (op_call exC (.cons (.base rfl) .nil) rfl rfl) ?_
  refine jg_adr _ rfl _ rfl rfl (op_move (.base rfl)) ?_
  refine jg_adr _ rfl _ rfl rfl (op_ext30 (.base rfl)) ?_
  refine jg_adr _ rfl _ rfl rfl (op_ext31 (.base rfl)) ?_
  refine jg_adr _ rfl _ rfl rfl (op_ext32 (.base rfl)) ?_
  refine jg_adr _ rfl _ rfl rfl (op_assign (.base rfl)) ?_
  refine jg_adr _ rfl _ rfl rfl (op_assign (.base rfl)) ?_
  refine jg_adr _ rfl _ rfl rfl (op_assign (.base rfl)) ?_
  refine jg_nil ?_
  refine jn_keep [2, 3, 4, 5, 7, 8, 9, 10, 11] [] (.cons rfl (.cons rfl (.cons rfl (.cons rfl (.cons rfl (.cons rfl (.cons rfl (.cons rfl (.cons rfl .nil))))))))) .nil ?_
  refine jn_seq (j_seq ?_)
  refine j_region ?_
  refine jg_adr _ rfl _ rfl rfl (op_move (.base rfl)) ?_
  refine jg_adr _ rfl _ rfl rfl (op_eql (.base rfl) (.base rfl)) ?_
  refine jg_adr _ rfl _ rfl rfl (op_move (.base rfl)) ?_
  refine jg_gd _ _ _ _ _ _ rfl rfl rfl rfl rfl (fun hg => op_move (.base rfl)) ?_
  refine jg_gd _ _ _ _ _ _ rfl rfl rfl rfl rfl (fun hg => op_eql (.gd rfl hg) (.base rfl)) ?_
  refine jg_adr _ rfl _ rfl rfl (op_pick_and (.base rfl) (.base rfl) rfl (by intro h; first | (rw [h]; rfl) | (rw [hg, h]; rfl) | (rw [h, hg]; rfl) | simp_all)) ?_
  refine jg_adr _ rfl _ rfl rfl (op_move (.base rfl)) ?_
  refine jg_gd _ _ _ _ _ _ rfl rfl rfl rfl rfl (fun hg => op_move (.base rfl)) ?_
  refine jg_gd _ _ _ _ _ _ rfl rfl rfl rfl rfl (fun hg => op_eql (.gd rfl hg) (.base rfl)) ?_
  refine jg_adr _ rfl _ rfl rfl (op_pick_and (.base rfl) (.base rfl) rfl (by intro h; first | (rw [h]; rfl) | (rw [hg, h]; rfl) | (rw [h, hg]; rfl) | simp_all)) ?_
  refine jg_adr _ rfl _ rfl rfl (op_move (.base rfl)) ?_
  refine jg_gd _ _ _ _ _ _ rfl rfl rfl rfl rfl (fun hg => op_move (.base rfl)) ?_
  refine jg_adr _ rfl _ rfl rfl (op_pick_and (.base rfl) (.base rfl) rfl (by intro h; first | (rw [h]; rfl) | (rw [hg, h]; rfl) | (rw [h, hg]; rfl) | simp_all)) ?_
  refine jg_adr _ rfl _ rfl rfl (op_move (.base rfl)) ?_
  refine jg_gd _ _ _ _ _ _ rfl rfl rfl rfl rfl (fun hg => op_move (.base rfl)) ?_
  refine jg_gd _ _ _ _ _ _ rfl rfl rfl rfl rfl (fun hg => op_eql (.gd rfl hg) (.base rfl)) ?_
  refine jg_adr _ rfl _ rfl rfl (op_pick_and (.base rfl) (.base rfl) rfl (by intro h; first | (rw [h]; rfl) | (rw [hg, h]; rfl) | (rw [h, hg]; rfl) | simp_all)) ?_
  refine jg_adr _ rfl _ rfl rfl (op_move (.base rfl)) ?_
  refine jg_gd _ _ _ _ _ _ rfl rfl rfl rfl rfl (fun hg => op_move (.base rfl)) ?_
  refine jg_gd _ _ _ _ _ _ rfl rfl rfl rfl rfl (fun hg => op_build z42 rfl pl42 (.cons (rt' := (rInt .i64)) rfl ln42_0 (.raw (.base rfl) rfl) (.cons (rt' := (rInt .i64)) rfl ln42_1 (.raw (.base rfl) rfl) .nil))) ?_
  refine jg_gd _ _ _ _ _ _ rfl rfl rfl rfl rfl (fun hg => op_bslice (rt := rKeyRange) Try.underlying37 ty42 z42 rfl (.cons (.tv (.gd rfl hg)) .nil) rfl rfl) ?_
  refine jg_gd _ _ _ _ _ _ rfl rfl rfl rfl rfl (fun hg => op_call (same_keys _ _) (.cons (.gd rfl hg) (.cons (.gd rfl hg) .nil)) rfl rfl) ?_
  refine jg_adr _ rfl _ rfl rfl (op_pick_and (.base rfl) (.base rfl) rfl (by intro h; first | (rw [h]; rfl) | (rw [hg, h]; rfl) | (rw [h, hg]; rfl) | simp_all)) ?_
  refine jg_adr _ rfl _ rfl rfl (op_move (.base rfl)) ?_
  refine jg_gd _ _ _ _ _ _ rfl rfl rfl rfl rfl (fun hg => op_move (.base rfl)) ?_
  refine jg_gd _ _ _ _ _ _ rfl rfl rfl rfl rfl (fun hg => op_eql (.gd rfl hg) (.base rfl)) ?_
  refine jg_adr _ rfl _ rfl rfl (op_pick_and (.base rfl) (.base rfl) rfl (by intro h; first | (rw [h]; rfl) | (rw [hg, h]; rfl) | (rw [h, hg]; rfl) | simp_all)) ?_
  refine jg_adr _ rfl _ rfl rfl (op_move (.base rfl)) ?_
  refine jg_gd _ _ _ _ _ _ rfl rfl rfl rfl rfl (fun hg => op_move (.base rfl)) ?_
  refine jg_gd _ _ _ _ _ _ rfl rfl rfl rfl rfl (fun hg => op_eql (.gd rfl hg) (.base rfl)) ?_
  refine jg_adr _ rfl _ rfl rfl (op_pick_and (.base rfl) (.base rfl) rfl (by intro h; first | (rw [h]; rfl) | (rw [hg, h]; rfl) | (rw [h, hg]; rfl) | simp_all)) ?_
  refine jg_adr _ rfl _ rfl rfl (op_move (.base rfl)) ?_
  refine jg_gd _ _ _ _ _ _ rfl rfl rfl rfl rfl (fun hg => op_move (.base rfl)) ?_
  refine jg_adr _ rfl _ rfl rfl (op_pick_and (.base rfl) (.base rfl) rfl (by intro h; first | (rw [h]; rfl) | (rw [hg, h]; rfl) | (rw [h, hg]; rfl) | simp_all)) ?_
  refine jg_adr _ rfl _ rfl rfl (op_assign (.base rfl)) ?_
  refine jg_nil ?_
  refine jn_keep [0] [] (.cons rfl .nil) .nil ?_
  refine jn_seq (j_ret ?_)
  exact jr_fin1 Try.results12 (res_tmp rfl) rfl (rb (by decide +kernel))

end Go.Proofs.Ytcdkmhmlpjnfeaa
