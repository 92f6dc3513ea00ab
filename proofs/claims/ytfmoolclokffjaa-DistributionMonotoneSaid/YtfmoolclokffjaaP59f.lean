import Derived.Test.YtfmoolclokffjaaP59p
namespace Go.Proofs.Ytfmoolclokffjaa
open Go.Eng
set_option maxRecDepth 100000
set_option maxHeartbeats 4000000
set_option linter.unusedVariables false
set_option linter.unusedSimpArgs false


theorem ex_srt : srt [40, 10, 30, 20] = [10, 20, 30, 40] := (srt_eq (by decide) (by decide)).symm
theorem ex_srt2 : srt [40, 10, 30, 20, 50] = [10, 20, 30, 40, 50] := (srt_eq (by decide) (by decide)).symm
theorem exQ : Ct Try.prog 12 [.tv (rSlice (rInt .i64)) [40, 10, 30, 20], .raw (.int .i64 1), .raw (.int .i64 2)] (.tup2 (.raw (.int .i64 20)) (.raw (.bool true))) := by
  have h := quan_ok [40, 10, 30, 20] 1 2
  rwa [show quanR [40, 10, 30, 20] 1 2 = (20, true) from by unfold quanR; rw [ex_srt]; decide +kernel] at h
theorem exH : Ct Try.prog 14 [.tv (rSlice (rInt .i64)) [5, 10, 15, 20], .tv (rSlice (rInt .i64)) [10, 20]] (.tup2 (.tv (rSlice rBucket) [(-1000000000000000, 10, 1, 5), (10, 20, 2, 25), (20, 1000000000000001, 1, 20)]) (.raw (.int .i64 0))) := by
  have h := hist_ok [5, 10, 15, 20] [10, 20]
  rwa [show histR [5, 10, 15, 20] [10, 20] = ([(-1000000000000000, 10, 1, 5), (10, 20, 2, 25), (20, 1000000000000001, 1, 20)], 0) from by decide +kernel] at h
theorem exG : Ct Try.prog 17 [.tv (rSlice (rInt .i64)) [5, 10, 15], .tv (rSlice (rInt .i64)) [1, 0, 1], .raw (.int .i64 2)] (.tup2 (.tv (rSlice rBucket) [(0, 1, 1, 10), (1, 2, 2, 20)]) (.raw (.int .i64 0))) := by
  have h := grp_ok [5, 10, 15] [1, 0, 1] 2
  rwa [show grpR [5, 10, 15] [1, 0, 1] 2 = ([(0, 1, 1, 10), (1, 2, 2, 20)], 0) from by decide +kernel] at h
theorem exS : Ct Try.prog 19 [.tv (rSlice (rInt .i64)) [40, 10, 30, 20, 50], .raw (.int .i64 2)] (.tup2 (.tv (rSlice (rInt .i64)) [60, 90]) (.raw (.int .i64 0))) := by
  have h := shares_ok [40, 10, 30, 20, 50] 2
  rwa [show sharesR [40, 10, 30, 20, 50] 2 = ([60, 90], 0) from by unfold sharesR; rw [ex_srt2]; decide +kernel] at h

theorem awake_ok  : Ct Try.prog 11 [] (.raw (.bool true)) := by
  refine ct_intro Try.func11 rfl rfl Try.ntmps11 rfl rfl ?_
  intro w0 ok0
  refine j_seq ?_
  refine j_region ?_
  refine jg_adr _ rfl _ rfl rfl (op_assign (.base rfl)) ?_
  refine jg_nil ?_
  refine jn_keep [] [] .nil .nil ?_
  refine jn_seq (j_seq ?_)
  refine j_region ?_
  refine jg_adr _ rfl _ rfl rfl (op_bslice (rt := (rInt .i64)) Try.underlying22 ty3 z3 rfl (.cons (.raw (.base rfl) rfl) (.cons (.raw (.base rfl) rfl) (.cons (.raw (.base rfl) rfl) (.cons (.raw (.base rfl) rfl) .nil)))) rfl rfl) ?_
  refine jg_adr _ rfl _ rfl rfl (op_call exQ (.cons (.base rfl) (.cons (.base rfl) (.cons (.base rfl) .nil))) rfl rfl) ?_
  refine jg_adr _ rfl _ rfl rfl (op_move (.base rfl)) ?_
  refine jg_adr _ rfl _ rfl rfl (op_ext20 (.base rfl)) ?_
  refine jg_adr _ rfl _ rfl rfl (op_ext21 (.base rfl)) ?_
  refine jg_adr _ rfl _ rfl rfl (op_assign (.base rfl)) ?_
  refine jg_adr _ rfl _ rfl rfl (op_assign (.base rfl)) ?_
  refine jg_nil ?_
  refine jn_keep [1, 2] [] (.cons rfl (.cons rfl .nil)) .nil ?_
  refine jn_seq (j_seq ?_)
  refine j_region ?_
  refine jg_adr _ rfl _ rfl rfl (op_bslice (rt := (rInt .i64)) Try.underlying22 ty3 z3 rfl (.cons (.raw (.base rfl) rfl) (.cons (.raw (.base rfl) rfl) (.cons (.raw (.base rfl) rfl) (.cons (.raw (.base rfl) rfl) .nil)))) rfl rfl) ?_
  refine jg_adr _ rfl _ rfl rfl (op_bslice (rt := (rInt .i64)) Try.underlying22 ty3 z3 rfl (.cons (.raw (.base rfl) rfl) (.cons (.raw (.base rfl) rfl) .nil)) rfl rfl) ?_
  refine jg_adr _ rfl _ rfl rfl (op_call exH (.cons (.base rfl) (.cons (.base rfl) .nil)) rfl rfl) ?_
  refine jg_adr _ rfl _ rfl rfl (op_move (.base rfl)) ?_
  refine jg_adr _ rfl _ rfl rfl (op_ext20 (.base rfl)) ?_
  refine jg_adr _ rfl _ rfl rfl (op_ext21 (.base rfl)) ?_
  refine jg_adr _ rfl _ rfl rfl (op_assign (.base rfl)) ?_
  refine jg_adr _ rfl _ rfl rfl (op_assign (.base rfl)) ?_
  refine jg_nil ?_
  refine jn_keep [1, 2, 3, 4] [] (.cons rfl (.cons rfl (.cons rfl (.cons rfl .nil)))) .nil ?_
  refine jn_seq (j_seq ?_)
  refine j_region ?_
  refine jg_adr _ rfl _ rfl rfl (op_bslice (rt := (rInt .i64)) Try.underlying22 ty3 z3 rfl (.cons (.raw (.base rfl) rfl) (.cons (.raw (.base rfl) rfl) (.cons (.raw (.base rfl) rfl) .nil))) rfl rfl) ?_
  refine jg_adr _ rfl _ rfl rfl (op_bslice (rt := (rInt .i64)) Try.underlying22 ty3 z3 rfl (.cons (.raw (.base rfl) rfl) (.cons (.raw (.base rfl) rfl) (.cons (.raw (.base rfl) rfl) .nil))) rfl rfl) ?_
  refine jg_adr _ rfl _ rfl rfl (op_call exG (.cons (.base rfl) (.cons (.base rfl) (.cons (.base rfl) .nil))) rfl rfl) ?_
  refine jg_adr _ rfl _ rfl rfl (op_move (.base rfl)) ?_
  refine jg_adr _ rfl _ rfl rfl (op_ext20 (.base rfl)) ?_
  refine jg_adr _ rfl _ rfl rfl (op_ext21 (.base rfl)) ?_
  refine jg_adr _ rfl _ rfl rfl (op_assign (.base rfl)) ?_
  refine jg_adr _ rfl _ rfl rfl (op_assign (.base rfl)) ?_
  refine jg_nil ?_
  refine jn_keep [1, 2, 3, 4, 5, 6] [] (.cons rfl (.cons rfl (.cons rfl (.cons rfl (.cons rfl (.cons rfl .nil)))))) .nil ?_
  refine jn_seq (j_seq ?_)
  refine j_region ?_
  refine jg_adr _ rfl _ rfl rfl (op_bslice (rt := (rInt .i64)) Try.underlying22 ty3 z3 rfl (.cons (.raw (.base rfl) rfl) (.cons (.raw (.base rfl) rfl) (.cons (.raw (.base rfl) rfl) (.cons (.raw (.base rfl) rfl) (.cons (.raw (.base rfl) rfl) .nil))))) rfl rfl) ?_
  refine jg_adr _ rfl _ rfl rfl (op_call exS (.cons (.base rfl) (.cons (.base rfl) .nil)) rfl rfl) ?_
  refine jg_adr _ rfl _ rfl rfl (op_move (.base rfl)) ?_
  refine jg_adr _ rfl _ rfl rfl (op_ext20 (.base rfl)) ?_
  refine jg_adr _ rfl _ rfl rfl (op_ext21 (.base rfl)) ?_
  refine jg_adr _ rfl _ rfl rfl (op_assign (.base rfl)) ?_
  refine jg_adr _ rfl _ rfl rfl (op_assign (.base rfl)) ?_
  refine jg_nil ?_
  refine jn_keep [1, 2, 3, 4, 5, 6, 7, 8] [] (.cons rfl (.cons rfl (.cons rfl (.cons rfl (.cons rfl (.cons rfl (.cons rfl (.cons rfl .nil)))))))) .nil ?_
  refine jn_seq (j_seq ?_)
  refine j_region ?_
  refine jg_adr _ rfl _ rfl rfl (op_move (.base rfl)) ?_
  refine jg_adr _ rfl _ rfl rfl (op_eql (.base rfl) (.base rfl)) ?_
  refine jg_adr _ rfl _ rfl rfl (op_move (.base rfl)) ?_
  refine jg_gd _ _ _ _ _ _ rfl rfl rfl rfl rfl (fun hg => op_move (.base rfl)) ?_
  refine jg_adr _ rfl _ rfl rfl (op_pick_and (.base rfl) (.base rfl) rfl (by intro h; first | (rw [h]; rfl) | (rw [hg, h]; rfl) | (rw [h, hg]; rfl) | simp_all)) ?_
  refine jg_adr _ rfl _ rfl rfl (op_move (.base rfl)) ?_
  refine jg_gd _ _ _ _ _ _ rfl rfl rfl rfl rfl (fun hg => op_move (.base rfl)) ?_
  refine jg_gd _ _ _ _ _ _ rfl rfl rfl rfl rfl (fun hg => op_eql (.gd rfl hg) (.base rfl)) ?_
  refine jg_adr _ rfl _ rfl rfl (op_pick_and (.base rfl) (.base rfl) rfl (by intro h; first | (rw [h]; rfl) | (rw [hg, h]; rfl) | (rw [h, hg]; rfl) | simp_all)) ?_
  refine jg_adr _ rfl _ rfl rfl (op_move (.base rfl)) ?_
  refine jg_gd _ _ _ _ _ _ rfl rfl rfl rfl rfl (fun hg => op_move (.base rfl)) ?_
  refine jg_gd _ _ _ _ _ _ rfl rfl rfl rfl rfl (fun hg => op_len Try.underlying28 (.gd rfl hg)) ?_
  refine jg_gd _ _ _ _ _ _ rfl rfl rfl rfl rfl (fun hg => op_eql (.gd rfl hg) (.base rfl)) ?_
  refine jg_adr _ rfl _ rfl rfl (op_pick_and (.base rfl) (.base rfl) rfl (by intro h; first | (rw [h]; rfl) | (rw [hg, h]; rfl) | (rw [h, hg]; rfl) | simp_all)) ?_
  refine jg_adr _ rfl _ rfl rfl (op_move (.base rfl)) ?_
  refine jg_gd _ _ _ _ _ _ rfl rfl rfl rfl rfl (fun hg => op_move (.base rfl)) ?_
  refine jg_gd _ _ _ _ _ _ rfl rfl rfl rfl rfl (fun hg => op_index Try.underlying28 ty44 (.gd rfl hg) (.base rfl) rfl (getD_some (z := ((0, (0, (0, 0))) : TBucket)) (by first | omega | (simp; done) | (simp; omega) | (simp at hg; omega) | (simp at hg; simp; omega)))) ?_
  refine jg_gd _ _ _ _ _ _ rfl rfl rfl rfl rfl (fun hg => op_load ty44 (.gd rfl hg)) ?_
  refine jg_gd _ _ _ _ _ _ rfl rfl rfl rfl rfl (fun hg => op_build z44 rfl pl44 (.cons (rt' := (rInt .i64)) rfl ln44_0 (.raw (.base rfl) rfl) (.cons (rt' := (rInt .i64)) rfl ln44_1 (.raw (.base rfl) rfl) (.cons (rt' := (rInt .i64)) rfl ln44_2 (.raw (.base rfl) rfl) (.cons (rt' := (rInt .i64)) rfl ln44_3 (.raw (.base rfl) rfl) .nil))))) ?_
  refine jg_gd _ _ _ _ _ _ rfl rfl rfl rfl rfl (fun hg => op_seql eq44 rfl rfl eg44 (.tv (.gd rfl hg)) (.tv (.gd rfl hg))) ?_
  refine jg_adr _ rfl _ rfl rfl (op_pick_and (.base rfl) (.base rfl) rfl (by intro h; first | (rw [h]; rfl) | (rw [hg, h]; rfl) | (rw [h, hg]; rfl) | simp_all)) ?_
  refine jg_adr _ rfl _ rfl rfl (op_move (.base rfl)) ?_
  refine jg_gd _ _ _ _ _ _ rfl rfl rfl rfl rfl (fun hg => op_move (.base rfl)) ?_
  refine jg_gd _ _ _ _ _ _ rfl rfl rfl rfl rfl (fun hg => op_eql (.gd rfl hg) (.base rfl)) ?_
  refine jg_adr _ rfl _ rfl rfl (op_pick_and (.base rfl) (.base rfl) rfl (by intro h; first | (rw [h]; rfl) | (rw [hg, h]; rfl) | (rw [h, hg]; rfl) | simp_all)) ?_
  refine jg_adr _ rfl _ rfl rfl (op_move (.base rfl)) ?_
  refine jg_gd _ _ _ _ _ _ rfl rfl rfl rfl rfl (fun hg => op_move (.base rfl)) ?_
  refine jg_gd _ _ _ _ _ _ rfl rfl rfl rfl rfl (fun hg => op_len Try.underlying28 (.gd rfl hg)) ?_
  refine jg_gd _ _ _ _ _ _ rfl rfl rfl rfl rfl (fun hg => op_eql (.gd rfl hg) (.base rfl)) ?_
  refine jg_adr _ rfl _ rfl rfl (op_pick_and (.base rfl) (.base rfl) rfl (by intro h; first | (rw [h]; rfl) | (rw [hg, h]; rfl) | (rw [h, hg]; rfl) | simp_all)) ?_
  refine jg_adr _ rfl _ rfl rfl (op_move (.base rfl)) ?_
  refine jg_gd _ _ _ _ _ _ rfl rfl rfl rfl rfl (fun hg => op_move (.base rfl)) ?_
  refine jg_gd _ _ _ _ _ _ rfl rfl rfl rfl rfl (fun hg => op_index Try.underlying28 ty44 (.gd rfl hg) (.base rfl) rfl (getD_some (z := ((0, (0, (0, 0))) : TBucket)) (by first | omega | (simp; done) | (simp; omega) | (simp at hg; omega) | (simp at hg; simp; omega)))) ?_
  refine jg_gd _ _ _ _ _ _ rfl rfl rfl rfl rfl (fun hg => op_load ty44 (.gd rfl hg)) ?_
  refine jg_gd _ _ _ _ _ _ rfl rfl rfl rfl rfl (fun hg => op_build z44 rfl pl44 (.cons (rt' := (rInt .i64)) rfl ln44_0 (.raw (.base rfl) rfl) (.cons (rt' := (rInt .i64)) rfl ln44_1 (.raw (.base rfl) rfl) (.cons (rt' := (rInt .i64)) rfl ln44_2 (.raw (.base rfl) rfl) (.cons (rt' := (rInt .i64)) rfl ln44_3 (.raw (.base rfl) rfl) .nil))))) ?_
  refine jg_gd _ _ _ _ _ _ rfl rfl rfl rfl rfl (fun hg => op_seql eq44 rfl rfl eg44 (.tv (.gd rfl hg)) (.tv (.gd rfl hg))) ?_
  refine jg_adr _ rfl _ rfl rfl (op_pick_and (.base rfl) (.base rfl) rfl (by intro h; first | (rw [h]; rfl) | (rw [hg, h]; rfl) | (rw [h, hg]; rfl) | simp_all)) ?_
  refine jg_adr _ rfl _ rfl rfl (op_move (.base rfl)) ?_
  refine jg_gd _ _ _ _ _ _ rfl rfl rfl rfl rfl (fun hg => op_move (.base rfl)) ?_
  refine jg_gd _ _ _ _ _ _ rfl rfl rfl rfl rfl (fun hg => op_eql (.gd rfl hg) (.base rfl)) ?_
  refine jg_adr _ rfl _ rfl rfl (op_pick_and (.base rfl) (.base rfl) rfl (by intro h; first | (rw [h]; rfl) | (rw [hg, h]; rfl) | (rw [h, hg]; rfl) | simp_all)) ?_
  refine jg_adr _ rfl _ rfl rfl (op_move (.base rfl)) ?_
  refine jg_gd _ _ _ _ _ _ rfl rfl rfl rfl rfl (fun hg => op_move (.base rfl)) ?_
  refine jg_gd _ _ _ _ _ _ rfl rfl rfl rfl rfl (fun hg => op_bslice (rt := (rInt .i64)) Try.underlying22 ty3 z3 rfl (.cons (.raw (.base rfl) rfl) (.cons (.raw (.base rfl) rfl) .nil)) rfl rfl) ?_
  refine jg_gd _ _ _ _ _ _ rfl rfl rfl rfl rfl (fun hg => op_call (same_ints _ _) (.cons (.gd rfl hg) (.cons (.gd rfl hg) .nil)) rfl rfl) ?_
  refine jg_adr _ rfl _ rfl rfl (op_pick_and (.base rfl) (.base rfl) rfl (by intro h; first | (rw [h]; rfl) | (rw [hg, h]; rfl) | (rw [h, hg]; rfl) | simp_all)) ?_
  refine jg_adr _ rfl _ rfl rfl (op_assign (.base rfl)) ?_
  refine jg_nil ?_
  refine jn_keep [0] [] (.cons rfl .nil) .nil ?_
  refine jn_seq (j_ret ?_)
  exact jr_fin1 Try.results11 (res_tmp rfl) rfl (rb (by decide +kernel))

theorem law_quan (l : List Int) (k n : Int) : Ct Try.prog 3 [.tv (rSlice (rInt .i64)) l, .raw (.int .i64 k), .raw (.int .i64 n)] (.raw (.bool true)) := by
  refine ct_intro Try.func3 rfl rfl Try.ntmps3 rfl rfl ?_
  intro w0 ok0
  refine j_seq ?_
  refine j_region ?_
  refine jg_adr _ rfl _ rfl rfl (op_assign (.base rfl)) ?_
  refine jg_nil ?_
  refine jn_keep [0, 1, 2] [] (.cons rfl (.cons rfl (.cons rfl .nil))) .nil ?_
  refine jn_seq (j_seq (j_seq ?_))
  refine j_region ?_
  refine jg_adr _ rfl _ rfl rfl (op_move (.base rfl)) ?_
  refine jg_adr _ rfl _ rfl rfl (op_call (few_ok _) (.cons (.base rfl) .nil) rfl rfl) ?_
  refine jg_adr _ rfl _ rfl rfl (op_not (.base rfl)) ?_
  refine jg_nil ?_
  refine jn_keep [0, 1, 2, 13] [] (.cons rfl (.cons rfl (.cons rfl (.cons rfl .nil)))) .nil ?_
  refine jn_seq ?_
  refine j_cond rfl (fun h1 => ?_) (fun h1 => ?_)
  · try simp at h1
    refine j_seq ?_
    refine j_region ?_
    refine jg_adr _ rfl _ rfl rfl (op_call awake_ok .nil rfl rfl) ?_
    refine jg_adr _ rfl _ rfl rfl (op_assign (.base rfl)) ?_
    refine jg_nil ?_
    refine jn_keep [6] [] (.cons rfl .nil) .nil ?_
    refine jn_seq (j_ret (jr_seq ?_))
    exact jr_fin1 Try.results3 (res_tmp rfl) rfl (rb (by first | rfl | (simp; done)))
  · try simp at h1
    refine j_skip (jn_seq (j_seq ?_))
    refine j_region ?_
    refine jg_adr _ rfl _ rfl rfl (op_move (.base rfl)) ?_
    refine jg_adr _ rfl _ rfl rfl (op_move (.base rfl)) ?_
    refine jg_adr _ rfl _ rfl rfl (op_move (.base rfl)) ?_
    refine jg_adr _ rfl _ rfl rfl (op_call (quan_ok _ _ _) (.cons (.base rfl) (.cons (.base rfl) (.cons (.base rfl) .nil))) rfl rfl) ?_
    refine jg_adr _ rfl _ rfl rfl (op_move (.base rfl)) ?_
    refine jg_adr _ rfl _ rfl rfl (op_ext20 (.base rfl)) ?_
    refine jg_adr _ rfl _ rfl rfl (op_ext21 (.base rfl)) ?_
    refine jg_adr _ rfl _ rfl rfl (op_assign (.base rfl)) ?_
    refine jg_adr _ rfl _ rfl rfl (op_assign (.base rfl)) ?_
    refine jg_nil ?_
    refine jn_keep [0, 1, 2, 7, 8] [] (.cons rfl (.cons rfl (.cons rfl (.cons rfl (.cons rfl .nil))))) .nil ?_
    refine jn_seq (j_seq ?_)
    refine j_region ?_
    refine jg_adr _ rfl _ rfl rfl (op_move (.base rfl)) ?_
    refine jg_adr _ rfl _ rfl rfl (op_move (.base rfl)) ?_
    refine jg_adr _ rfl _ rfl rfl (op_move (.base rfl)) ?_
    refine jg_adr _ rfl _ rfl rfl (op_call (rquan_ok _ _ _) (.cons (.base rfl) (.cons (.base rfl) (.cons (.base rfl) .nil))) rfl rfl) ?_
    refine jg_adr _ rfl _ rfl rfl (op_move (.base rfl)) ?_
    refine jg_adr _ rfl _ rfl rfl (op_ext20 (.base rfl)) ?_
    refine jg_adr _ rfl _ rfl rfl (op_ext21 (.base rfl)) ?_
    refine jg_adr _ rfl _ rfl rfl (op_assign (.base rfl)) ?_
    refine jg_adr _ rfl _ rfl rfl (op_assign (.base rfl)) ?_
    refine jg_nil ?_
    refine jn_keep [7, 8, 9, 10] [] (.cons rfl (.cons rfl (.cons rfl (.cons rfl .nil)))) .nil ?_
    refine jn_seq (j_seq ?_)
    refine j_region ?_
    refine jg_adr _ rfl _ rfl rfl (op_move (.base rfl)) ?_
    refine jg_adr _ rfl _ rfl rfl (op_move (.base rfl)) ?_
    refine jg_adr _ rfl _ rfl rfl (op_eql (.base rfl) (.base rfl)) ?_
    refine jg_adr _ rfl _ rfl rfl (op_move (.base rfl)) ?_
    refine jg_gd _ _ _ _ _ _ rfl rfl rfl rfl rfl (fun hg => op_move (.base rfl)) ?_
    refine jg_gd _ _ _ _ _ _ rfl rfl rfl rfl rfl (fun hg => op_move (.base rfl)) ?_
    refine jg_gd _ _ _ _ _ _ rfl rfl rfl rfl rfl (fun hg => op_eql_bool Try.underlying4 (.gd rfl hg) (.gd rfl hg)) ?_
    refine jg_adr _ rfl _ rfl rfl (op_pick_and (.base rfl) (.base rfl) rfl (by intro h; first | (rw [h]; rfl) | (rw [hg, h]; rfl) | (rw [h, hg]; rfl) | simp_all)) ?_
    refine jg_adr _ rfl _ rfl rfl (op_move (.base rfl)) ?_
    refine jg_gd _ _ _ _ _ _ rfl rfl rfl rfl rfl (fun hg => op_call awake_ok .nil rfl rfl) ?_
    refine jg_adr _ rfl _ rfl rfl (op_pick_and (.base rfl) (.base rfl) rfl (by intro h; first | (rw [h]; rfl) | (rw [hg, h]; rfl) | (rw [h, hg]; rfl) | simp_all)) ?_
    refine jg_adr _ rfl _ rfl rfl (op_assign (.base rfl)) ?_
    refine jg_nil ?_
    refine jn_keep [6] [] (.cons rfl .nil) .nil ?_
    refine jn_seq (j_ret ?_)
    exact jr_fin1 Try.results3 (res_tmp rfl) rfl (rb (by first | rfl | (simp; done)))

theorem law_hist (l bd : List Int) : Ct Try.prog 4 [.tv (rSlice (rInt .i64)) l, .tv (rSlice (rInt .i64)) bd] (.raw (.bool true)) := by
  refine ct_intro Try.func4 rfl rfl Try.ntmps4 rfl rfl ?_
  intro w0 ok0
  refine j_seq ?_
  refine j_region ?_
  refine jg_adr _ rfl _ rfl rfl (op_assign (.base rfl)) ?_
  refine jg_nil ?_
  refine jn_keep [0, 1] [] (.cons rfl (.cons rfl .nil)) .nil ?_
  refine jn_seq (j_seq (j_seq ?_))
  refine j_region ?_
  refine jg_adr _ rfl _ rfl rfl (op_move (.base rfl)) ?_
  refine jg_adr _ rfl _ rfl rfl (op_call (few_ok _) (.cons (.base rfl) .nil) rfl rfl) ?_
  refine jg_adr _ rfl _ rfl rfl (op_not (.base rfl)) ?_
  refine jg_adr _ rfl _ rfl rfl (op_move (.base rfl)) ?_
  refine jg_gd _ _ _ _ _ _ rfl rfl rfl rfl rfl (fun hg => op_move (.base rfl)) ?_
  refine jg_gd _ _ _ _ _ _ rfl rfl rfl rfl rfl (fun hg => op_call (few_ok _) (.cons (.gd rfl hg) .nil) rfl rfl) ?_
  refine jg_gd _ _ _ _ _ _ rfl rfl rfl rfl rfl (fun hg => op_not (.gd rfl hg)) ?_
  refine jg_adr _ rfl _ rfl rfl (op_pick_or (.base rfl) (.base rfl) rfl (by intro h; first | (rw [h]; rfl) | (rw [hg, h]; rfl) | (rw [h, hg]; rfl) | simp_all)) ?_
  refine jg_nil ?_
  refine jn_keep [0, 1, 16] [] (.cons rfl (.cons rfl (.cons rfl .nil))) .nil ?_
  refine jn_seq ?_
  refine j_cond rfl (fun h1 => ?_) (fun h1 => ?_)
  · try simp at h1
    refine j_seq ?_
    refine j_region ?_
    refine jg_adr _ rfl _ rfl rfl (op_call awake_ok .nil rfl rfl) ?_
    refine jg_adr _ rfl _ rfl rfl (op_assign (.base rfl)) ?_
    refine jg_nil ?_
    refine jn_keep [4] [] (.cons rfl .nil) .nil ?_
    refine jn_seq (j_ret (jr_seq ?_))
    exact jr_fin1 Try.results4 (res_tmp rfl) rfl (rb (by first | rfl | (simp; done)))
  · try simp at h1
    refine j_skip (jn_seq (j_seq ?_))
    refine j_region ?_
    refine jg_adr _ rfl _ rfl rfl (op_move (.base rfl)) ?_
    refine jg_adr _ rfl _ rfl rfl (op_move (.base rfl)) ?_
    refine jg_adr _ rfl _ rfl rfl (op_call (hist_ok _ _) (.cons (.base rfl) (.cons (.base rfl) .nil)) rfl rfl) ?_
    refine jg_adr _ rfl _ rfl rfl (op_move (.base rfl)) ?_
    refine jg_adr _ rfl _ rfl rfl (op_ext20 (.base rfl)) ?_
    refine jg_adr _ rfl _ rfl rfl (op_ext21 (.base rfl)) ?_
    refine jg_adr _ rfl _ rfl rfl (op_assign (.base rfl)) ?_
    refine jg_adr _ rfl _ rfl rfl (op_assign (.base rfl)) ?_
    refine jg_nil ?_
    refine jn_keep [0, 1, 5, 6] [] (.cons rfl (.cons rfl (.cons rfl (.cons rfl .nil)))) .nil ?_
    refine jn_seq (j_seq ?_)
    refine j_region ?_
    refine jg_adr _ rfl _ rfl rfl (op_move (.base rfl)) ?_
    refine jg_adr _ rfl _ rfl rfl (op_move (.base rfl)) ?_
    refine jg_adr _ rfl _ rfl rfl (op_call (rhist_ok _ _) (.cons (.base rfl) (.cons (.base rfl) .nil)) rfl rfl) ?_
    refine jg_adr _ rfl _ rfl rfl (op_move (.base rfl)) ?_
    refine jg_adr _ rfl _ rfl rfl (op_ext20 (.base rfl)) ?_
    refine jg_adr _ rfl _ rfl rfl (op_ext21 (.base rfl)) ?_
    refine jg_adr _ rfl _ rfl rfl (op_assign (.base rfl)) ?_
    refine jg_adr _ rfl _ rfl rfl (op_assign (.base rfl)) ?_
    refine jg_nil ?_
    refine jn_keep [5, 6, 7, 8] [] (.cons rfl (.cons rfl (.cons rfl (.cons rfl .nil)))) .nil ?_
    refine jn_seq (j_seq ?_)
    refine j_region ?_
    refine jg_adr _ rfl _ rfl rfl (op_move (.base rfl)) ?_
    refine jg_adr _ rfl _ rfl rfl (op_move (.base rfl)) ?_
    refine jg_adr _ rfl _ rfl rfl (op_call (same_buckets _ _) (.cons (.base rfl) (.cons (.base rfl) .nil)) rfl rfl) ?_
    refine jg_adr _ rfl _ rfl rfl (op_move (.base rfl)) ?_
    refine jg_gd _ _ _ _ _ _ rfl rfl rfl rfl rfl (fun hg => op_move (.base rfl)) ?_
    refine jg_gd _ _ _ _ _ _ rfl rfl rfl rfl rfl (fun hg => op_move (.base rfl)) ?_
    refine jg_gd _ _ _ _ _ _ rfl rfl rfl rfl rfl (fun hg => op_eql (.gd rfl hg) (.gd rfl hg)) ?_
    refine jg_adr _ rfl _ rfl rfl (op_pick_and (.base rfl) (.base rfl) rfl (by intro h; first | (rw [h]; rfl) | (rw [hg, h]; rfl) | (rw [h, hg]; rfl) | simp_all)) ?_
    refine jg_adr _ rfl _ rfl rfl (op_move (.base rfl)) ?_
    refine jg_gd _ _ _ _ _ _ rfl rfl rfl rfl rfl (fun hg => op_call awake_ok .nil rfl rfl) ?_
    refine jg_adr _ rfl _ rfl rfl (op_pick_and (.base rfl) (.base rfl) rfl (by intro h; first | (rw [h]; rfl) | (rw [hg, h]; rfl) | (rw [h, hg]; rfl) | simp_all)) ?_
    refine jg_adr _ rfl _ rfl rfl (op_assign (.base rfl)) ?_
    refine jg_nil ?_
    refine jn_keep [4] [] (.cons rfl .nil) .nil ?_
    refine jn_seq (j_ret ?_)
    exact jr_fin1 Try.results4 (res_tmp rfl) rfl (rb (by first | rfl | (simp; done)))

theorem law_grp (l gs : List Int) (n : Int) : Ct Try.prog 5 [.tv (rSlice (rInt .i64)) l, .tv (rSlice (rInt .i64)) gs, .raw (.int .i64 n)] (.raw (.bool true)) := by
  refine ct_intro Try.func5 rfl rfl Try.ntmps5 rfl rfl ?_
  intro w0 ok0
  refine j_seq ?_
  refine j_region ?_
  refine jg_adr _ rfl _ rfl rfl (op_assign (.base rfl)) ?_
  refine jg_nil ?_
  refine jn_keep [0, 1, 2] [] (.cons rfl (.cons rfl (.cons rfl .nil))) .nil ?_
  refine jn_seq (j_seq (j_seq ?_))
  refine j_region ?_
  refine jg_adr _ rfl _ rfl rfl (op_move (.base rfl)) ?_
  refine jg_adr _ rfl _ rfl rfl (op_call (few_ok _) (.cons (.base rfl) .nil) rfl rfl) ?_
  refine jg_adr _ rfl _ rfl rfl (op_not (.base rfl)) ?_
  refine jg_adr _ rfl _ rfl rfl (op_move (.base rfl)) ?_
  refine jg_gd _ _ _ _ _ _ rfl rfl rfl rfl rfl (fun hg => op_move (.base rfl)) ?_
  refine jg_gd _ _ _ _ _ _ rfl rfl rfl rfl rfl (fun hg => op_call (few_ok _) (.cons (.gd rfl hg) .nil) rfl rfl) ?_
  refine jg_gd _ _ _ _ _ _ rfl rfl rfl rfl rfl (fun hg => op_not (.gd rfl hg)) ?_
  refine jg_adr _ rfl _ rfl rfl (op_pick_or (.base rfl) (.base rfl) rfl (by intro h; first | (rw [h]; rfl) | (rw [hg, h]; rfl) | (rw [h, hg]; rfl) | simp_all)) ?_
  refine jg_nil ?_
  refine jn_keep [0, 1, 2, 18] [] (.cons rfl (.cons rfl (.cons rfl (.cons rfl .nil)))) .nil ?_
  refine jn_seq ?_
  refine j_cond rfl (fun h1 => ?_) (fun h1 => ?_)
  · try simp at h1
    refine j_seq ?_
    refine j_region ?_
    refine jg_adr _ rfl _ rfl rfl (op_call awake_ok .nil rfl rfl) ?_
    refine jg_adr _ rfl _ rfl rfl (op_assign (.base rfl)) ?_
    refine jg_nil ?_
    refine jn_keep [6] [] (.cons rfl .nil) .nil ?_
    refine jn_seq (j_ret (jr_seq ?_))
    exact jr_fin1 Try.results5 (res_tmp rfl) rfl (rb (by first | rfl | (simp; done)))
  · try simp at h1
    refine j_skip (jn_seq (j_seq ?_))
    refine j_region ?_
    refine jg_adr _ rfl _ rfl rfl (op_move (.base rfl)) ?_
    refine jg_adr _ rfl _ rfl rfl (op_move (.base rfl)) ?_
    refine jg_adr _ rfl _ rfl rfl (op_move (.base rfl)) ?_
    refine jg_adr _ rfl _ rfl rfl (op_call (grp_ok _ _ _) (.cons (.base rfl) (.cons (.base rfl) (.cons (.base rfl) .nil))) rfl rfl) ?_
    refine jg_adr _ rfl _ rfl rfl (op_move (.base rfl)) ?_
    refine jg_adr _ rfl _ rfl rfl (op_ext20 (.base rfl)) ?_
    refine jg_adr _ rfl _ rfl rfl (op_ext21 (.base rfl)) ?_
    refine jg_adr _ rfl _ rfl rfl (op_assign (.base rfl)) ?_
    refine jg_adr _ rfl _ rfl rfl (op_assign (.base rfl)) ?_
    refine jg_nil ?_
    refine jn_keep [0, 1, 2, 7, 8] [] (.cons rfl (.cons rfl (.cons rfl (.cons rfl (.cons rfl .nil))))) .nil ?_
    refine jn_seq (j_seq ?_)
    refine j_region ?_
    refine jg_adr _ rfl _ rfl rfl (op_move (.base rfl)) ?_
    refine jg_adr _ rfl _ rfl rfl (op_move (.base rfl)) ?_
    refine jg_adr _ rfl _ rfl rfl (op_move (.base rfl)) ?_
    refine jg_adr _ rfl _ rfl rfl (op_call (rgrp_ok _ _ _) (.cons (.base rfl) (.cons (.base rfl) (.cons (.base rfl) .nil))) rfl rfl) ?_
    refine jg_adr _ rfl _ rfl rfl (op_move (.base rfl)) ?_
    refine jg_adr _ rfl _ rfl rfl (op_ext20 (.base rfl)) ?_
    refine jg_adr _ rfl _ rfl rfl (op_ext21 (.base rfl)) ?_
    refine jg_adr _ rfl _ rfl rfl (op_assign (.base rfl)) ?_
    refine jg_adr _ rfl _ rfl rfl (op_assign (.base rfl)) ?_
    refine jg_nil ?_
    refine jn_keep [7, 8, 9, 10] [] (.cons rfl (.cons rfl (.cons rfl (.cons rfl .nil)))) .nil ?_
    refine jn_seq (j_seq ?_)
    refine j_region ?_
    refine jg_adr _ rfl _ rfl rfl (op_move (.base rfl)) ?_
    refine jg_adr _ rfl _ rfl rfl (op_move (.base rfl)) ?_
    refine jg_adr _ rfl _ rfl rfl (op_call (same_buckets _ _) (.cons (.base rfl) (.cons (.base rfl) .nil)) rfl rfl) ?_
    refine jg_adr _ rfl _ rfl rfl (op_move (.base rfl)) ?_
    refine jg_gd _ _ _ _ _ _ rfl rfl rfl rfl rfl (fun hg => op_move (.base rfl)) ?_
    refine jg_gd _ _ _ _ _ _ rfl rfl rfl rfl rfl (fun hg => op_move (.base rfl)) ?_
    refine jg_gd _ _ _ _ _ _ rfl rfl rfl rfl rfl (fun hg => op_eql (.gd rfl hg) (.gd rfl hg)) ?_
    refine jg_adr _ rfl _ rfl rfl (op_pick_and (.base rfl) (.base rfl) rfl (by intro h; first | (rw [h]; rfl) | (rw [hg, h]; rfl) | (rw [h, hg]; rfl) | simp_all)) ?_
    refine jg_adr _ rfl _ rfl rfl (op_move (.base rfl)) ?_
    refine jg_gd _ _ _ _ _ _ rfl rfl rfl rfl rfl (fun hg => op_call awake_ok .nil rfl rfl) ?_
    refine jg_adr _ rfl _ rfl rfl (op_pick_and (.base rfl) (.base rfl) rfl (by intro h; first | (rw [h]; rfl) | (rw [hg, h]; rfl) | (rw [h, hg]; rfl) | simp_all)) ?_
    refine jg_adr _ rfl _ rfl rfl (op_assign (.base rfl)) ?_
    refine jg_nil ?_
    refine jn_keep [6] [] (.cons rfl .nil) .nil ?_
    refine jn_seq (j_ret ?_)
    exact jr_fin1 Try.results5 (res_tmp rfl) rfl (rb (by first | rfl | (simp; done)))

theorem law_shares (l : List Int) (n : Int) : Ct Try.prog 6 [.tv (rSlice (rInt .i64)) l, .raw (.int .i64 n)] (.raw (.bool true)) := by
  refine ct_intro Try.func6 rfl rfl Try.ntmps6 rfl rfl ?_
  intro w0 ok0
  refine j_seq ?_
  refine j_region ?_
  refine jg_adr _ rfl _ rfl rfl (op_assign (.base rfl)) ?_
  refine jg_nil ?_
  refine jn_keep [0, 1] [] (.cons rfl (.cons rfl .nil)) .nil ?_
  refine jn_seq (j_seq (j_seq ?_))
  refine j_region ?_
  refine jg_adr _ rfl _ rfl rfl (op_move (.base rfl)) ?_
  refine jg_adr _ rfl _ rfl rfl (op_call (few_ok _) (.cons (.base rfl) .nil) rfl rfl) ?_
  refine jg_adr _ rfl _ rfl rfl (op_not (.base rfl)) ?_
  refine jg_nil ?_
  refine jn_keep [0, 1, 11] [] (.cons rfl (.cons rfl (.cons rfl .nil))) .nil ?_
  refine jn_seq ?_
  refine j_cond rfl (fun h1 => ?_) (fun h1 => ?_)
  · try simp at h1
    refine j_seq ?_
    refine j_region ?_
    refine jg_adr _ rfl _ rfl rfl (op_call awake_ok .nil rfl rfl) ?_
    refine jg_adr _ rfl _ rfl rfl (op_assign (.base rfl)) ?_
    refine jg_nil ?_
    refine jn_keep [4] [] (.cons rfl .nil) .nil ?_
    refine jn_seq (j_ret (jr_seq ?_))
    exact jr_fin1 Try.results6 (res_tmp rfl) rfl (rb (by first | rfl | (simp; done)))
  · try simp at h1
    refine j_skip (jn_seq (j_seq ?_))
    refine j_region ?_
    refine jg_adr _ rfl _ rfl rfl (op_move (.base rfl)) ?_
    refine jg_adr _ rfl _ rfl rfl (op_move (.base rfl)) ?_
    refine jg_adr _ rfl _ rfl rfl (op_call (shares_ok _ _) (.cons (.base rfl) (.cons (.base rfl) .nil)) rfl rfl) ?_
    refine jg_adr _ rfl _ rfl rfl (op_move (.base rfl)) ?_
    refine jg_adr _ rfl _ rfl rfl (op_ext20 (.base rfl)) ?_
    refine jg_adr _ rfl _ rfl rfl (op_ext21 (.base rfl)) ?_
    refine jg_adr _ rfl _ rfl rfl (op_assign (.base rfl)) ?_
    refine jg_adr _ rfl _ rfl rfl (op_assign (.base rfl)) ?_
    refine jg_nil ?_
    refine jn_keep [0, 1, 5, 6] [] (.cons rfl (.cons rfl (.cons rfl (.cons rfl .nil)))) .nil ?_
    refine jn_seq (j_seq ?_)
    refine j_region ?_
    refine jg_adr _ rfl _ rfl rfl (op_move (.base rfl)) ?_
    refine jg_adr _ rfl _ rfl rfl (op_move (.base rfl)) ?_
    refine jg_adr _ rfl _ rfl rfl (op_call (rshares_ok _ _) (.cons (.base rfl) (.cons (.base rfl) .nil)) rfl rfl) ?_
    refine jg_adr _ rfl _ rfl rfl (op_move (.base rfl)) ?_
    refine jg_adr _ rfl _ rfl rfl (op_ext20 (.base rfl)) ?_
    refine jg_adr _ rfl _ rfl rfl (op_ext21 (.base rfl)) ?_
    refine jg_adr _ rfl _ rfl rfl (op_assign (.base rfl)) ?_
    refine jg_adr _ rfl _ rfl rfl (op_assign (.base rfl)) ?_
    refine jg_nil ?_
    refine jn_keep [5, 6, 7, 8] [] (.cons rfl (.cons rfl (.cons rfl (.cons rfl .nil)))) .nil ?_
    refine jn_seq (j_seq ?_)
    refine j_region ?_
    refine jg_adr _ rfl _ rfl rfl (op_move (.base rfl)) ?_
    refine jg_adr _ rfl _ rfl rfl (op_move (.base rfl)) ?_
    refine jg_adr _ rfl _ rfl rfl (op_call (same_ints _ _) (.cons (.base rfl) (.cons (.base rfl) .nil)) rfl rfl) ?_
    refine jg_adr _ rfl _ rfl rfl (op_move (.base rfl)) ?_
    refine jg_gd _ _ _ _ _ _ rfl rfl rfl rfl rfl (fun hg => op_move (.base rfl)) ?_
    refine jg_gd _ _ _ _ _ _ rfl rfl rfl rfl rfl (fun hg => op_move (.base rfl)) ?_
    refine jg_gd _ _ _ _ _ _ rfl rfl rfl rfl rfl (fun hg => op_eql (.gd rfl hg) (.gd rfl hg)) ?_
    refine jg_adr _ rfl _ rfl rfl (op_pick_and (.base rfl) (.base rfl) rfl (by intro h; first | (rw [h]; rfl) | (rw [hg, h]; rfl) | (rw [h, hg]; rfl) | simp_all)) ?_
    refine jg_adr _ rfl _ rfl rfl (op_move (.base rfl)) ?_
    refine jg_gd _ _ _ _ _ _ rfl rfl rfl rfl rfl (fun hg => op_call awake_ok .nil rfl rfl) ?_
    refine jg_adr _ rfl _ rfl rfl (op_pick_and (.base rfl) (.base rfl) rfl (by intro h; first | (rw [h]; rfl) | (rw [hg, h]; rfl) | (rw [h, hg]; rfl) | simp_all)) ?_
    refine jg_adr _ rfl _ rfl rfl (op_assign (.base rfl)) ?_
    refine jg_nil ?_
    refine jn_keep [4] [] (.cons rfl .nil) .nil ?_
    refine jn_seq (j_ret ?_)
    exact jr_fin1 Try.results6 (res_tmp rfl) rfl (rb (by first | rfl | (simp; done)))

theorem law_totals (l bd gs : List Int) (n : Int) : Ct Try.prog 7 [.tv (rSlice (rInt .i64)) l, .tv (rSlice (rInt .i64)) bd, .tv (rSlice (rInt .i64)) gs, .raw (.int .i64 n)] (.raw (.bool true)) := by
  refine ct_intro Try.func7 rfl rfl Try.ntmps7 rfl rfl ?_
  intro w0 ok0
  refine j_len 0 rfl (fun hl0 => ?_)
  refine j_seq ?_
  refine j_region ?_
  refine jg_adr _ rfl _ rfl rfl (op_assign (.base rfl)) ?_
  refine jg_nil ?_
  refine jn_keep [0, 1, 2, 3] [] (.cons rfl (.cons rfl (.cons rfl (.cons rfl .nil)))) .nil ?_
  refine jn_seq (j_seq (j_seq ?_))
  refine j_region ?_
  refine jg_adr _ rfl _ rfl rfl (op_move (.base rfl)) ?_
  refine jg_adr _ rfl _ rfl rfl (op_call (few_ok _) (.cons (.base rfl) .nil) rfl rfl) ?_
  refine jg_adr _ rfl _ rfl rfl (op_not (.base rfl)) ?_
  refine jg_adr _ rfl _ rfl rfl (op_move (.base rfl)) ?_
  refine jg_gd _ _ _ _ _ _ rfl rfl rfl rfl rfl (fun hg => op_move (.base rfl)) ?_
  refine jg_gd _ _ _ _ _ _ rfl rfl rfl rfl rfl (fun hg => op_call (few_ok _) (.cons (.gd rfl hg) .nil) rfl rfl) ?_
  refine jg_gd _ _ _ _ _ _ rfl rfl rfl rfl rfl (fun hg => op_not (.gd rfl hg)) ?_
  refine jg_adr _ rfl _ rfl rfl (op_pick_or (.base rfl) (.base rfl) rfl (by intro h; first | (rw [h]; rfl) | (rw [hg, h]; rfl) | (rw [h, hg]; rfl) | simp_all)) ?_
  refine jg_adr _ rfl _ rfl rfl (op_move (.base rfl)) ?_
  refine jg_gd _ _ _ _ _ _ rfl rfl rfl rfl rfl (fun hg => op_move (.base rfl)) ?_
  refine jg_gd _ _ _ _ _ _ rfl rfl rfl rfl rfl (fun hg => op_call (few_ok _) (.cons (.gd rfl hg) .nil) rfl rfl) ?_
  refine jg_gd _ _ _ _ _ _ rfl rfl rfl rfl rfl (fun hg => op_not (.gd rfl hg)) ?_
  refine jg_adr _ rfl _ rfl rfl (op_pick_or (.base rfl) (.base rfl) rfl (by intro h; first | (rw [h]; rfl) | (rw [hg, h]; rfl) | (rw [h, hg]; rfl) | simp_all)) ?_
  refine jg_nil ?_
  refine jn_keep [0, 1, 2, 3, 32] [] (.cons rfl (.cons rfl (.cons rfl (.cons rfl (.cons rfl .nil))))) .nil ?_
  refine jn_seq ?_
  refine j_cond rfl (fun h1 => ?_) (fun h1 => ?_)
  · skip
    refine j_seq ?_
    refine j_region ?_
    refine jg_adr _ rfl _ rfl rfl (op_call awake_ok .nil rfl rfl) ?_
    refine jg_adr _ rfl _ rfl rfl (op_assign (.base rfl)) ?_
    refine jg_nil ?_
    refine jn_keep [8] [] (.cons rfl .nil) .nil ?_
    refine jn_seq (j_ret (jr_seq ?_))
    exact jr_fin1 Try.results7 (res_tmp rfl) rfl (rb (by first | rfl | (simp; done)))
  · have k1 : l.length ≤ 200 := by simp at h1; omega
    refine j_skip (jn_seq (j_seq ?_))
    refine j_region ?_
    refine jg_adr _ rfl _ rfl rfl (op_assign (.base rfl)) ?_
    refine jg_nil ?_
    refine jn_keep [0, 1, 2, 3, 9] [] (.cons rfl (.cons rfl (.cons rfl (.cons rfl (.cons rfl .nil))))) .nil ?_
    refine jn_seq (j_seq (j_seq ?_))
    refine j_region ?_
    refine jg_adr _ rfl _ rfl rfl (op_assign (.base rfl)) ?_
    refine jg_nil ?_
    refine jn_keep [0, 1, 2, 3, 9, 10] [] (.cons rfl (.cons rfl (.cons rfl (.cons rfl (.cons rfl (.cons rfl .nil)))))) .nil ?_
    refine jn_seq (j_block ?_)
    refine j_loopp (ι := Nat) (fun k => ⟨[(0, .tv (rSlice (rInt .i64)) l), (1, .tv (rSlice (rInt .i64)) bd), (2, .tv (rSlice (rInt .i64)) gs), (3, .raw (.int .i64 (n))), (9, .raw (.int .i64 ((IntKind.i64.wrap (l.take k).sum)))), (10, .raw (.int .i64 ((k : Nat))))], []⟩) (fun k => k ≤ l.length) (fun k => l.length - k) 0 (Nat.zero_le _) (fun a w hi => (Sub.inv ⟨(by repeat (first | exact SubS_nil | refine SubS_cons rfl (by first | rfl | (simp; done) | assumption) ?_)), (by repeat (first | exact SubH_nil | refine SubH_cons rfl (by first | rfl | (simp; done) | assumption) ?_))⟩ hi)) ?_
    rintro k hk
    refine j_seq (j_seq ?_)
    refine j_region ?_
    refine jg_adr _ rfl _ rfl rfl (op_move (.base rfl)) ?_
    refine jg_adr _ rfl _ rfl rfl (op_move (.base rfl)) ?_
    refine jg_adr _ rfl _ rfl rfl (op_len Try.underlying22 (.base rfl)) ?_
    refine jg_adr _ rfl _ rfl rfl (op_lss (.base rfl) (.base rfl)) ?_
    refine jg_nil ?_
    refine jn_keep [0, 1, 2, 3, 9, 10, 37] [] (.cons rfl (.cons rfl (.cons rfl (.cons rfl (.cons rfl (.cons rfl (.cons rfl .nil))))))) .nil ?_
    refine jn_seq ?_
    refine j_cond rfl (fun h5 => ?_) (fun h5 => ?_)
    · simp at h5
      refine j_skip (jn_seq (j_seq (j_block ?_)))
      refine j_region ?_
      refine jg_adr _ rfl _ rfl rfl (op_move (.base rfl)) ?_
      refine jg_adr _ rfl _ rfl rfl (op_move (.base rfl)) ?_
      refine jg_adr _ rfl _ rfl rfl (op_move (.base rfl)) ?_
      refine jg_adr _ rfl _ rfl rfl (op_index Try.underlying22 ty3 (.base rfl) (.base rfl) rfl (List.getElem?_eq_getElem (by first | omega | (simp; done) | (simp; omega) | (simp at hg; omega)))) ?_
      refine jg_adr _ rfl _ rfl rfl (op_load ty3 (.base rfl)) ?_
      refine jg_adr _ rfl _ rfl rfl (op_add (.base rfl) (.base rfl) rfl) ?_
      refine jg_adr _ rfl _ rfl rfl (op_assign (.base rfl)) ?_
      refine jg_nil ?_
      refine jn_keep [0, 1, 2, 3, 9, 10] [] (.cons rfl (.cons rfl (.cons rfl (.cons rfl (.cons rfl (.cons rfl .nil)))))) .nil ?_
      refine jn_blk (jn_seq ?_)
      refine j_region ?_
      refine jg_adr _ rfl _ rfl rfl (op_move (.base rfl)) ?_
      refine jg_adr _ rfl _ rfl rfl (op_add (.base rfl) (.base rfl) (w64 (by omega))) ?_
      refine jg_adr _ rfl _ rfl rfl (op_assign (.base rfl)) ?_
      refine jg_nil ?_
      refine jn_keep [0, 1, 2, 3, 9, 10] [] (.cons rfl (.cons rfl (.cons rfl (.cons rfl (.cons rfl (.cons rfl .nil)))))) .nil ?_
      exact jn_loop (fun a w hi => ⟨k + 1, (by first | omega | (simp; omega)), (by omega), (Sub.inv ⟨(by repeat (first | exact SubS_nil | refine SubS_cons rfl (by first | rfl | exact congrArg (fun z => SV.raw (Value.int .i64 z)) (sumW_add h5)) ?_)), (by repeat (first | exact SubH_nil | refine SubH_cons rfl (by first | rfl | (simp; done) | assumption) ?_))⟩ hi)⟩)
    · simp at h5
      obtain rfl : k = l.length := by omega
      rw [List.take_of_length_le (Nat.le_refl l.length)]
      refine j_exit (je_seq (je_loop (je_blk (jn_seq (j_seq ?_)))))
      refine j_region ?_
      refine jg_adr _ rfl _ rfl rfl (op_move (.base rfl)) ?_
      refine jg_adr _ rfl _ rfl rfl (op_move (.base rfl)) ?_
      refine jg_adr _ rfl _ rfl rfl (op_call (hist_ok _ _) (.cons (.base rfl) (.cons (.base rfl) .nil)) rfl rfl) ?_
      refine jg_adr _ rfl _ rfl rfl (op_move (.base rfl)) ?_
      refine jg_adr _ rfl _ rfl rfl (op_ext20 (.base rfl)) ?_
      refine jg_adr _ rfl _ rfl rfl (op_ext21 (.base rfl)) ?_
      refine jg_adr _ rfl _ rfl rfl (op_assign (.base rfl)) ?_
      refine jg_adr _ rfl _ rfl rfl (op_assign (.base rfl)) ?_
      refine jg_nil ?_
      refine jn_keep [0, 2, 3, 9, 11, 12] [] (.cons rfl (.cons rfl (.cons rfl (.cons rfl (.cons rfl (.cons rfl .nil)))))) .nil ?_
      refine jn_seq (j_seq ?_)
      refine j_region ?_
      refine jg_adr _ rfl _ rfl rfl (op_move (.base rfl)) ?_
      refine jg_adr _ rfl _ rfl rfl (op_move (.base rfl)) ?_
      refine jg_adr _ rfl _ rfl rfl (op_move (.base rfl)) ?_
      refine jg_adr _ rfl _ rfl rfl (op_call (grp_ok _ _ _) (.cons (.base rfl) (.cons (.base rfl) (.cons (.base rfl) .nil))) rfl rfl) ?_
      refine jg_adr _ rfl _ rfl rfl (op_move (.base rfl)) ?_
      refine jg_adr _ rfl _ rfl rfl (op_ext20 (.base rfl)) ?_
      refine jg_adr _ rfl _ rfl rfl (op_ext21 (.base rfl)) ?_
      refine jg_adr _ rfl _ rfl rfl (op_assign (.base rfl)) ?_
      refine jg_adr _ rfl _ rfl rfl (op_assign (.base rfl)) ?_
      refine jg_nil ?_
      refine jn_keep [0, 3, 9, 11, 12, 13, 14] [] (.cons rfl (.cons rfl (.cons rfl (.cons rfl (.cons rfl (.cons rfl (.cons rfl .nil))))))) .nil ?_
      refine jn_seq (j_seq ?_)
      refine j_region ?_
      refine jg_adr _ rfl _ rfl rfl (op_move (.base rfl)) ?_
      refine jg_adr _ rfl _ rfl rfl (op_move (.base rfl)) ?_
      refine jg_adr _ rfl _ rfl rfl (op_call (shares_ok _ _) (.cons (.base rfl) (.cons (.base rfl) .nil)) rfl rfl) ?_
      refine jg_adr _ rfl _ rfl rfl (op_move (.base rfl)) ?_
      refine jg_adr _ rfl _ rfl rfl (op_ext20 (.base rfl)) ?_
      refine jg_adr _ rfl _ rfl rfl (op_ext21 (.base rfl)) ?_
      refine jg_adr _ rfl _ rfl rfl (op_assign (.base rfl)) ?_
      refine jg_adr _ rfl _ rfl rfl (op_assign (.base rfl)) ?_
      refine jg_nil ?_
      refine jn_keep [0, 3, 9, 11, 12, 13, 14, 15, 16] [] (.cons rfl (.cons rfl (.cons rfl (.cons rfl (.cons rfl (.cons rfl (.cons rfl (.cons rfl (.cons rfl .nil))))))))) .nil ?_
      refine jn_seq (j_seq ?_)
      refine j_region ?_
      refine jg_adr _ rfl _ rfl rfl (op_move (.base rfl)) ?_
      refine jg_adr _ rfl _ rfl rfl (op_call (total_ok _) (.cons (.base rfl) .nil) rfl rfl) ?_
      refine jg_adr _ rfl _ rfl rfl (op_move (.base rfl)) ?_
      refine jg_adr _ rfl _ rfl rfl (op_ext20 (.base rfl)) ?_
      refine jg_adr _ rfl _ rfl rfl (op_ext21 (.base rfl)) ?_
      refine jg_adr _ rfl _ rfl rfl (op_assign (.base rfl)) ?_
      refine jg_adr _ rfl _ rfl rfl (op_assign (.base rfl)) ?_
      refine jg_nil ?_
      refine jn_keep [0, 3, 9, 12, 13, 14, 15, 16, 17, 18] [] (.cons rfl (.cons rfl (.cons rfl (.cons rfl (.cons rfl (.cons rfl (.cons rfl (.cons rfl (.cons rfl (.cons rfl .nil)))))))))) .nil ?_
      refine jn_seq (j_seq (j_seq ?_))
      refine j_region ?_
      refine jg_adr _ rfl _ rfl rfl (op_move (.base rfl)) ?_
      refine jg_adr _ rfl _ rfl rfl (op_eql (.base rfl) (.base rfl)) ?_
      refine jg_adr _ rfl _ rfl rfl (op_move (.base rfl)) ?_
      refine jg_gd _ _ _ _ _ _ rfl rfl rfl rfl rfl (fun hg => op_move (.base rfl)) ?_
      refine jg_gd _ _ _ _ _ _ rfl rfl rfl rfl rfl (fun hg => op_move (.base rfl)) ?_
      refine jg_gd _ _ _ _ _ _ rfl rfl rfl rfl rfl (fun hg => op_len Try.underlying22 (.gd rfl hg)) ?_
      refine jg_gd _ _ _ _ _ _ rfl rfl rfl rfl rfl (fun hg => op_neq (.gd rfl hg) (.gd rfl hg)) ?_
      refine jg_gd _ _ _ _ _ _ rfl rfl rfl rfl rfl (fun hg => op_move (.gd rfl hg)) ?_
      refine jg_gd2 _ _ _ _ _ _ _ rfl rfl rfl rfl rfl (fun hg => op_move (.base rfl)) ?_
      refine jg_gd2 _ _ _ _ _ _ _ rfl rfl rfl rfl rfl (fun hg => op_move (.base rfl)) ?_
      refine jg_gd2 _ _ _ _ _ _ _ rfl rfl rfl rfl rfl (fun hg => op_neq (.gd rfl hg) (.gd rfl hg)) ?_
      refine jg_gd _ _ _ _ _ _ rfl rfl rfl rfl rfl (fun hg => op_pick_or (.gd rfl hg) (.base rfl) rfl (by intro h; first | (rw [h]; rfl) | (rw [hg, h]; rfl) | (rw [h, hg]; rfl) | simp_all)) ?_
      refine jg_adr _ rfl _ rfl rfl (op_pick_and (.base rfl) (.base rfl) rfl (by intro h; first | (rw [h]; rfl) | (rw [hg, h]; rfl) | (rw [h, hg]; rfl) | simp_all)) ?_
      refine jg_nil ?_
      refine jn_keep [0, 3, 9, 13, 14, 15, 16, 82] [] (.cons rfl (.cons rfl (.cons rfl (.cons rfl (.cons rfl (.cons rfl (.cons rfl (.cons rfl .nil)))))))) .nil ?_
      refine jn_seq ?_
      refine j_cond rfl (fun h12 => ?_) (fun h12 => ?_)
      · exfalso; have q := Bool.and_eq_true_iff.1 h12; have q1 : (histR l bd).2 = 0 := (by simpa using q.1); obtain ⟨t1, t2⟩ := histR_tot q1; unfold sumC at t1; unfold sumS at t2; rw [show (totR (histR l bd).1).1 = (l.length : Int) from by unfold totR; rw [t1]; exact w64 (by omega), show (totR (histR l bd).1).2 = IntKind.i64.wrap l.sum from by unfold totR; rw [t2]] at h12; simp at h12
      · skip
        refine j_skip (jn_seq (j_seq ?_))
        refine j_region ?_
        refine jg_adr _ rfl _ rfl rfl (op_move (.base rfl)) ?_
        refine jg_adr _ rfl _ rfl rfl (op_call (total_ok _) (.cons (.base rfl) .nil) rfl rfl) ?_
        refine jg_adr _ rfl _ rfl rfl (op_move (.base rfl)) ?_
        refine jg_adr _ rfl _ rfl rfl (op_ext20 (.base rfl)) ?_
        refine jg_adr _ rfl _ rfl rfl (op_ext21 (.base rfl)) ?_
        refine jg_adr _ rfl _ rfl rfl (op_assign (.base rfl)) ?_
        refine jg_adr _ rfl _ rfl rfl (op_assign (.base rfl)) ?_
        refine jg_nil ?_
        refine jn_keep [0, 3, 9, 13, 14, 15, 16, 17, 18] [] (.cons rfl (.cons rfl (.cons rfl (.cons rfl (.cons rfl (.cons rfl (.cons rfl (.cons rfl (.cons rfl .nil))))))))) .nil ?_
        refine jn_seq (j_seq (j_seq ?_))
        refine j_region ?_
        refine jg_adr _ rfl _ rfl rfl (op_move (.base rfl)) ?_
        refine jg_adr _ rfl _ rfl rfl (op_eql (.base rfl) (.base rfl)) ?_
        refine jg_adr _ rfl _ rfl rfl (op_move (.base rfl)) ?_
        refine jg_gd _ _ _ _ _ _ rfl rfl rfl rfl rfl (fun hg => op_move (.base rfl)) ?_
        refine jg_gd _ _ _ _ _ _ rfl rfl rfl rfl rfl (fun hg => op_move (.base rfl)) ?_
        refine jg_gd _ _ _ _ _ _ rfl rfl rfl rfl rfl (fun hg => op_len Try.underlying22 (.gd rfl hg)) ?_
        refine jg_gd _ _ _ _ _ _ rfl rfl rfl rfl rfl (fun hg => op_neq (.gd rfl hg) (.gd rfl hg)) ?_
        refine jg_gd _ _ _ _ _ _ rfl rfl rfl rfl rfl (fun hg => op_move (.gd rfl hg)) ?_
        refine jg_gd2 _ _ _ _ _ _ _ rfl rfl rfl rfl rfl (fun hg => op_move (.base rfl)) ?_
        refine jg_gd2 _ _ _ _ _ _ _ rfl rfl rfl rfl rfl (fun hg => op_move (.base rfl)) ?_
        refine jg_gd2 _ _ _ _ _ _ _ rfl rfl rfl rfl rfl (fun hg => op_neq (.gd rfl hg) (.gd rfl hg)) ?_
        refine jg_gd _ _ _ _ _ _ rfl rfl rfl rfl rfl (fun hg => op_pick_or (.gd rfl hg) (.base rfl) rfl (by intro h; first | (rw [h]; rfl) | (rw [hg, h]; rfl) | (rw [h, hg]; rfl) | simp_all)) ?_
        refine jg_gd _ _ _ _ _ _ rfl rfl rfl rfl rfl (fun hg => op_move (.gd rfl hg)) ?_
        refine jg_gd2 _ _ _ _ _ _ _ rfl rfl rfl rfl rfl (fun hg => op_move (.base rfl)) ?_
        refine jg_gd2 _ _ _ _ _ _ _ rfl rfl rfl rfl rfl (fun hg => op_len Try.underlying28 (.gd rfl hg)) ?_
        refine jg_gd2 _ _ _ _ _ _ _ rfl rfl rfl rfl rfl (fun hg => op_move (.base rfl)) ?_
        refine jg_gd2 _ _ _ _ _ _ _ rfl rfl rfl rfl rfl (fun hg => op_neq (.gd rfl hg) (.gd rfl hg)) ?_
        refine jg_gd _ _ _ _ _ _ rfl rfl rfl rfl rfl (fun hg => op_pick_or (.gd rfl hg) (.base rfl) rfl (by intro h; first | (rw [h]; rfl) | (rw [hg, h]; rfl) | (rw [h, hg]; rfl) | simp_all)) ?_
        refine jg_adr _ rfl _ rfl rfl (op_pick_and (.base rfl) (.base rfl) rfl (by intro h; first | (rw [h]; rfl) | (rw [hg, h]; rfl) | (rw [h, hg]; rfl) | simp_all)) ?_
        refine jg_nil ?_
        refine jn_keep [3, 9, 15, 16, 106] [] (.cons rfl (.cons rfl (.cons rfl (.cons rfl (.cons rfl .nil))))) .nil ?_
        refine jn_seq ?_
        refine j_cond rfl (fun h15 => ?_) (fun h15 => ?_)
        · exfalso; have q := Bool.and_eq_true_iff.1 h15; have q1 : (grpR l gs n).2 = 0 := (by simpa using q.1); obtain ⟨t1, t2, t3⟩ := grpR_tot q1; unfold sumC at t1; unfold sumS at t2; rw [show (totR (grpR l gs n).1).1 = (l.length : Int) from by unfold totR; rw [t1]; exact w64 (by omega), show (totR (grpR l gs n).1).2 = IntKind.i64.wrap l.sum from by unfold totR; rw [t2], t3] at h15; simp at h15
        · skip
          refine j_skip (jn_seq (j_seq (j_seq ?_)))
          refine j_len 15 rfl (fun hl15 => ?_)
          refine j_region ?_
          refine jg_adr _ rfl _ rfl rfl (op_assign (.base rfl)) ?_
          refine jg_nil ?_
          refine jn_keep [3, 9, 15, 16, 19] [] (.cons rfl (.cons rfl (.cons rfl (.cons rfl (.cons rfl .nil))))) .nil ?_
          refine jn_seq (j_block ?_)
          refine j_loopp (ι := Nat) (fun k => ⟨[(3, .raw (.int .i64 (n))), (9, .raw (.int .i64 ((IntKind.i64.wrap (l.sum - ((sharesR l n).1.take k).sum))))), (15, .tv (rSlice (rInt .i64)) (sharesR l n).1), (16, .raw (.int .i64 ((sharesR l n).2))), (19, .raw (.int .i64 ((k : Nat))))], []⟩) (fun k => k ≤ (sharesR l n).1.length) (fun k => (sharesR l n).1.length - k) 0 (Nat.zero_le _) (fun a w hi => (Sub.inv ⟨(by repeat (first | exact SubS_nil | refine SubS_cons rfl (by first | rfl | exact congrArg (fun z => SV.raw (Value.int .i64 z)) (by simp)) ?_)), (by repeat (first | exact SubH_nil | refine SubH_cons rfl (by first | rfl | (simp; done) | assumption) ?_))⟩ hi)) ?_
          rintro k hk
          refine j_seq (j_seq ?_)
          refine j_region ?_
          refine jg_adr _ rfl _ rfl rfl (op_move (.base rfl)) ?_
          refine jg_adr _ rfl _ rfl rfl (op_move (.base rfl)) ?_
          refine jg_adr _ rfl _ rfl rfl (op_len Try.underlying22 (.base rfl)) ?_
          refine jg_adr _ rfl _ rfl rfl (op_lss (.base rfl) (.base rfl)) ?_
          refine jg_nil ?_
          refine jn_keep [3, 9, 15, 16, 19, 110] [] (.cons rfl (.cons rfl (.cons rfl (.cons rfl (.cons rfl (.cons rfl .nil)))))) .nil ?_
          refine jn_seq ?_
          refine j_cond rfl (fun h18 => ?_) (fun h18 => ?_)
          · simp at h18
            refine j_skip (jn_seq (j_seq (j_block ?_)))
            refine j_region ?_
            refine jg_adr _ rfl _ rfl rfl (op_move (.base rfl)) ?_
            refine jg_adr _ rfl _ rfl rfl (op_move (.base rfl)) ?_
            refine jg_adr _ rfl _ rfl rfl (op_move (.base rfl)) ?_
            refine jg_adr _ rfl _ rfl rfl (op_index Try.underlying22 ty3 (.base rfl) (.base rfl) rfl (List.getElem?_eq_getElem (by first | omega | (simp; done) | (simp; omega) | (simp at hg; omega)))) ?_
            refine jg_adr _ rfl _ rfl rfl (op_load ty3 (.base rfl)) ?_
            refine jg_adr _ rfl _ rfl rfl (op_sub (.base rfl) (.base rfl) rfl) ?_
            refine jg_adr _ rfl _ rfl rfl (op_assign (.base rfl)) ?_
            refine jg_nil ?_
            refine jn_keep [3, 9, 15, 16, 19] [] (.cons rfl (.cons rfl (.cons rfl (.cons rfl (.cons rfl .nil))))) .nil ?_
            refine jn_blk (jn_seq ?_)
            refine j_region ?_
            refine jg_adr _ rfl _ rfl rfl (op_move (.base rfl)) ?_
            refine jg_adr _ rfl _ rfl rfl (op_add (.base rfl) (.base rfl) (w64 (by omega))) ?_
            refine jg_adr _ rfl _ rfl rfl (op_assign (.base rfl)) ?_
            refine jg_nil ?_
            refine jn_keep [3, 9, 15, 16, 19] [] (.cons rfl (.cons rfl (.cons rfl (.cons rfl (.cons rfl .nil))))) .nil ?_
            exact jn_loop (fun a w hi => ⟨k + 1, (by first | omega | (simp; omega)), (by omega), (Sub.inv ⟨(by repeat (first | exact SubS_nil | refine SubS_cons rfl (by first | rfl | exact congrArg (fun z => SV.raw (Value.int .i64 z)) (sumW_sub h18)) ?_)), (by repeat (first | exact SubH_nil | refine SubH_cons rfl (by first | rfl | (simp; done) | assumption) ?_))⟩ hi)⟩)
          · simp at h18
            obtain rfl : k = (sharesR l n).1.length := by omega
            rw [List.take_of_length_le (Nat.le_refl (sharesR l n).1.length)]
            refine j_exit (je_seq (je_loop (je_blk (jn_seq (j_seq ?_)))))
            refine j_region ?_
            refine jg_adr _ rfl _ rfl rfl (op_move (.base rfl)) ?_
            refine jg_adr _ rfl _ rfl rfl (op_neq (.base rfl) (.base rfl)) ?_
            refine jg_adr _ rfl _ rfl rfl (op_move (.base rfl)) ?_
            refine jg_gd _ _ _ _ _ _ rfl rfl rfl rfl rfl (fun hg => op_move (.base rfl)) ?_
            refine jg_gd _ _ _ _ _ _ rfl rfl rfl rfl rfl (fun hg => op_eql (.gd rfl hg) (.base rfl)) ?_
            refine jg_gd _ _ _ _ _ _ rfl rfl rfl rfl rfl (fun hg => op_move (.gd rfl hg)) ?_
            refine jg_gd2 _ _ _ _ _ _ _ rfl rfl rfl rfl rfl (fun hg => op_move (.base rfl)) ?_
            refine jg_gd2 _ _ _ _ _ _ _ rfl rfl rfl rfl rfl (fun hg => op_len Try.underlying22 (.gd rfl hg)) ?_
            refine jg_gd2 _ _ _ _ _ _ _ rfl rfl rfl rfl rfl (fun hg => op_move (.base rfl)) ?_
            refine jg_gd2 _ _ _ _ _ _ _ rfl rfl rfl rfl rfl (fun hg => op_eql (.gd rfl hg) (.gd rfl hg)) ?_
            refine jg_gd _ _ _ _ _ _ rfl rfl rfl rfl rfl (fun hg => op_pick_and (.gd rfl hg) (.base rfl) rfl (by intro h; first | (rw [h]; rfl) | (rw [hg, h]; rfl) | (rw [h, hg]; rfl) | simp_all)) ?_
            refine jg_adr _ rfl _ rfl rfl (op_pick_or (.base rfl) (.base rfl) rfl (by intro h; first | (rw [h]; rfl) | (rw [hg, h]; rfl) | (rw [h, hg]; rfl) | simp_all)) ?_
            refine jg_adr _ rfl _ rfl rfl (op_move (.base rfl)) ?_
            refine jg_gd _ _ _ _ _ _ rfl rfl rfl rfl rfl (fun hg => op_call awake_ok .nil rfl rfl) ?_
            refine jg_adr _ rfl _ rfl rfl (op_pick_and (.base rfl) (.base rfl) rfl (by intro h; first | (rw [h]; rfl) | (rw [hg, h]; rfl) | (rw [h, hg]; rfl) | simp_all)) ?_
            refine jg_adr _ rfl _ rfl rfl (op_assign (.base rfl)) ?_
            refine jg_nil ?_
            refine jn_keep [8] [] (.cons rfl .nil) .nil ?_
            refine jn_seq (j_ret ?_)
            have hfin : ((((sharesR l n).2 != 0) || ((IntKind.i64.wrap (l.sum - (sharesR l n).1.sum) == 0) && (((sharesR l n).1.length : Int) == n))) && true) = true := by
              by_cases q : (sharesR l n).2 = 0
              · obtain ⟨t1, t2⟩ := shares_tot q
                rw [q, t1, t2, show l.sum - l.sum = 0 by omega, show IntKind.i64.wrap 0 = 0 from w64 (by omega)]; simp
              · simp [q]
            exact jr_fin1 Try.results7 (res_tmp rfl) rfl (rb hfin)

theorem law_order (l bd : List Int) (n : Int) (c : Nat) (hc : c ≤ 255) : Ct Try.prog 8 [.tv (rSlice (rInt .i64)) l, .tv (rSlice (rInt .i64)) bd, .raw (.int .i64 n), .raw (.int .u8 (c : Int))] (.raw (.bool true)) := by
  refine ct_intro Try.func8 rfl rfl Try.ntmps8 rfl rfl ?_
  intro w0 ok0
  refine j_len 0 rfl (fun hl0 => ?_)
  refine j_seq ?_
  refine j_region ?_
  refine jg_adr _ rfl _ rfl rfl (op_assign (.base rfl)) ?_
  refine jg_nil ?_
  refine jn_keep [0, 1, 2, 3] [] (.cons rfl (.cons rfl (.cons rfl (.cons rfl .nil)))) .nil ?_
  refine jn_seq (j_seq (j_seq ?_))
  refine j_region ?_
  refine jg_adr _ rfl _ rfl rfl (op_move (.base rfl)) ?_
  refine jg_adr _ rfl _ rfl rfl (op_call (few_ok _) (.cons (.base rfl) .nil) rfl rfl) ?_
  refine jg_adr _ rfl _ rfl rfl (op_not (.base rfl)) ?_
  refine jg_adr _ rfl _ rfl rfl (op_move (.base rfl)) ?_
  refine jg_gd _ _ _ _ _ _ rfl rfl rfl rfl rfl (fun hg => op_move (.base rfl)) ?_
  refine jg_gd _ _ _ _ _ _ rfl rfl rfl rfl rfl (fun hg => op_call (few_ok _) (.cons (.gd rfl hg) .nil) rfl rfl) ?_
  refine jg_gd _ _ _ _ _ _ rfl rfl rfl rfl rfl (fun hg => op_not (.gd rfl hg)) ?_
  refine jg_adr _ rfl _ rfl rfl (op_pick_or (.base rfl) (.base rfl) rfl (by intro h; first | (rw [h]; rfl) | (rw [hg, h]; rfl) | (rw [h, hg]; rfl) | simp_all)) ?_
  refine jg_nil ?_
  refine jn_keep [0, 1, 2, 3, 31] [] (.cons rfl (.cons rfl (.cons rfl (.cons rfl (.cons rfl .nil))))) .nil ?_
  refine jn_seq ?_
  refine j_cond rfl (fun h1 => ?_) (fun h1 => ?_)
  · skip
    refine j_seq ?_
    refine j_region ?_
    refine jg_adr _ rfl _ rfl rfl (op_call awake_ok .nil rfl rfl) ?_
    refine jg_adr _ rfl _ rfl rfl (op_assign (.base rfl)) ?_
    refine jg_nil ?_
    refine jn_keep [8] [] (.cons rfl .nil) .nil ?_
    refine jn_seq (j_ret (jr_seq ?_))
    exact jr_fin1 Try.results8 (res_tmp rfl) rfl (rb (by first | rfl | (simp; done)))
  · have k1 : l.length ≤ 200 := by simp at h1; omega
    refine j_skip (jn_seq (j_seq ?_))
    refine j_region ?_
    refine jg_adr _ rfl _ rfl rfl (op_assign (.base rfl)) ?_
    refine jg_nil ?_
    refine jn_keep [0, 1, 2, 3, 9] [] (.cons rfl (.cons rfl (.cons rfl (.cons rfl (.cons rfl .nil))))) .nil ?_
    refine jn_seq (j_seq (j_seq ?_))
    refine j_region ?_
    refine jg_adr _ rfl _ rfl rfl (op_assign (.base rfl)) ?_
    refine jg_nil ?_
    refine jn_keep [0, 1, 2, 3, 9, 10] [] (.cons rfl (.cons rfl (.cons rfl (.cons rfl (.cons rfl (.cons rfl .nil)))))) .nil ?_
    refine jn_seq (j_block ?_)
    refine j_vac 70 9 (rInt .i64) rfl rfl rfl ?_
    refine j_loopp (ι := Nat) (fun k => ⟨[(0, .tv (rSlice (rInt .i64)) l), (1, .tv (rSlice (rInt .i64)) bd), (2, .raw (.int .i64 (n))), (3, .raw (.int .u8 (c : Int))), (9, .own 70 (rInt .i64).n 0 (turnI l c k).length), (10, .raw (.int .i64 ((k : Nat))))], [(70, ⟨rInt .i64, (turnI l c k)⟩)]⟩) (fun k => k ≤ l.length) (fun k => l.length - k) 0 (Nat.zero_le _) (fun a w hi => (Sub.inv ⟨(by repeat (first | exact SubS_nil | refine SubS_cons rfl (by first | rfl | (simp; done) | assumption) ?_)), (by repeat (first | exact SubH_nil | refine SubH_cons rfl (by first | rfl | (simp; done) | assumption) ?_))⟩ hi)) ?_
    rintro k hk
    have htl := turnI_len (l := l) (c := c) (j := k)
    refine j_seq (j_seq ?_)
    refine j_region ?_
    refine jg_adr _ rfl _ rfl rfl (op_move (.base rfl)) ?_
    refine jg_adr _ rfl _ rfl rfl (op_move (.base rfl)) ?_
    refine jg_adr _ rfl _ rfl rfl (op_len Try.underlying22 (.base rfl)) ?_
    refine jg_adr _ rfl _ rfl rfl (op_lss (.base rfl) (.base rfl)) ?_
    refine jg_nil ?_
    refine jn_keep [0, 1, 2, 3, 9, 10, 36] [70] (.cons rfl (.cons rfl (.cons rfl (.cons rfl (.cons rfl (.cons rfl (.cons rfl .nil))))))) (.cons rfl .nil) ?_
    refine jn_seq ?_
    refine j_cond rfl (fun h5 => ?_) (fun h5 => ?_)
    · simp at h5
      have hrem := turn_rem (c := c) h5
      have hlt : (l.length - 1 - k + c) % l.length < l.length := Nat.mod_lt _ (by omega)
      have hs := turnI_succ (l := l) (c := c) (j := k)
      rw [show l.getD ((l.length - 1 - k + c) % l.length) 0 = l[(l.length - 1 - k + c) % l.length]'hlt from by rw [List.getD_eq_getElem?_getD, List.getElem?_eq_getElem hlt]; rfl] at hs
      refine j_skip (jn_seq (j_seq (j_block ?_)))
      refine j_region ?_
      refine jg_adr _ rfl _ rfl rfl (op_move (.base rfl)) ?_
      refine jg_adr _ rfl _ rfl rfl (op_move (.base rfl)) ?_
      refine jg_adr _ rfl _ rfl rfl (op_move (.base rfl)) ?_
      refine jg_adr _ rfl _ rfl rfl (op_len Try.underlying22 (.base rfl)) ?_
      refine jg_adr _ rfl _ rfl rfl (op_sub (.base rfl) (.base rfl) (w64 (by omega))) ?_
      refine jg_adr _ rfl _ rfl rfl (op_move (.base rfl)) ?_
      refine jg_adr _ rfl _ rfl rfl (op_sub (.base rfl) (.base rfl) (w64 (by omega))) ?_
      refine jg_adr _ rfl _ rfl rfl (op_move (.base rfl)) ?_
      refine jg_adr _ rfl _ rfl rfl (op_conv ⟨_, Try.underlying5⟩ Try.underlying3 (.base rfl) (w64 (by omega))) ?_
      refine jg_adr _ rfl _ rfl rfl (op_add (.base rfl) (.base rfl) (w64 (by omega))) ?_
      refine jg_adr _ rfl _ rfl rfl (op_move (.base rfl)) ?_
      refine jg_adr _ rfl _ rfl rfl (op_len Try.underlying22 (.base rfl)) ?_
      refine jg_adr _ rfl _ rfl rfl (op_rem_e (.base rfl) (.base rfl) (by omega) hrem) ?_
      refine jg_adr _ rfl _ rfl rfl (op_index Try.underlying22 ty3 (.base rfl) (.base rfl) rfl (List.getElem?_eq_getElem (by first | omega | (simp; done) | (simp; omega) | (simp at hg; omega)))) ?_
      refine jg_adr _ rfl _ rfl rfl (op_load ty3 (.base rfl)) ?_
      refine jg_adr _ rfl _ rfl rfl (op_bslice (rt := (rInt .i64)) Try.underlying22 ty3 z3 rfl (.cons (.raw (.base rfl) rfl) .nil) rfl rfl) ?_
      refine jg_os _ rfl (op_append [0, 1, 2, 3, 10] Try.underlying22 ty3 z3 rfl by3 (.base rfl) rfl (by (try simp); try omega) (.tv (.base rfl)) (by unfold maxLen; (try simp); try omega) (by (try simp); try omega) rfl (.cons rfl (.cons rfl (.cons rfl (.cons rfl (.cons rfl .nil))))) rfl) ?_
      refine jg_adr _ rfl _ rfl rfl (op_assign (.base rfl)) ?_
      refine jg_nil ?_
      refine jn_keep [0, 1, 2, 3, 9, 10] [70] (.cons rfl (.cons rfl (.cons rfl (.cons rfl (.cons rfl (.cons rfl .nil)))))) (.cons rfl .nil) ?_
      refine jn_blk (jn_seq ?_)
      refine j_region ?_
      refine jg_adr _ rfl _ rfl rfl (op_move (.base rfl)) ?_
      refine jg_adr _ rfl _ rfl rfl (op_add (.base rfl) (.base rfl) (w64 (by omega))) ?_
      refine jg_adr _ rfl _ rfl rfl (op_assign (.base rfl)) ?_
      refine jg_nil ?_
      refine jn_keep [0, 1, 2, 3, 9, 10] [70] (.cons rfl (.cons rfl (.cons rfl (.cons rfl (.cons rfl (.cons rfl .nil)))))) (.cons rfl .nil) ?_
      exact jn_loop (fun a w hi => ⟨k + 1, (by omega), (by omega), Sub.inv ⟨(by repeat (first | exact SubS_nil | refine SubS_cons rfl (by first | rfl | (refine congrArg (SV.own 70 (rInt .i64).n 0) ?_; rw [hs]; simp)) ?_)), (by repeat (first | exact SubH_nil | refine SubH_cons rfl (by first | rfl | (refine congrArg (HB.mk (rInt .i64)) ?_; rw [hs]; try (simp only [List.drop_zero, List.take_of_length_le (Nat.le_refl _)]); first | done | rfl | (simp; done))) ?_))⟩ hi⟩)
    · simp at h5
      obtain rfl : k = l.length := by omega
      refine j_exit (je_seq (je_loop (je_blk (jn_seq (j_seq ?_)))))
      refine j_seal (rt := rInt .i64) 70 9 (dropH 70 _) rfl rfl (by simp) (dropH_sub 70 _) (dropH_no 70 _) ?_
      have hpm := (turnI_perm l c).symm
      rw [show ((turnI l c l.length).drop 0).take (turnI l c l.length).length = turnI l c l.length from by rw [List.drop_zero, List.take_of_length_le (Nat.le_refl _)]]
      refine j_region ?_
      refine jg_adr _ rfl _ rfl rfl (op_move (.base rfl)) ?_
      refine jg_adr _ rfl _ rfl rfl (op_conv ⟨_, Try.underlying5⟩ Try.underlying3 (.base rfl) (w64 (by omega))) ?_
      refine jg_adr _ rfl _ rfl rfl (op_rem_e (.base rfl) (.base rfl) (by omega) rfl) ?_
      refine jg_adr _ rfl _ rfl rfl (op_assign (.base rfl)) ?_
      refine jg_nil ?_
      refine jn_keep [0, 1, 2, 9, 11] [] (.cons rfl (.cons rfl (.cons rfl (.cons rfl (.cons rfl .nil))))) .nil ?_
      refine jn_seq (j_seq ?_)
      refine j_region ?_
      refine jg_adr _ rfl _ rfl rfl (op_move (.base rfl)) ?_
      refine jg_adr _ rfl _ rfl rfl (op_move (.base rfl)) ?_
      refine jg_adr _ rfl _ rfl rfl (op_move (.base rfl)) ?_
      refine jg_adr _ rfl _ rfl rfl (op_call (quan_ok _ _ _) (.cons (.base rfl) (.cons (.base rfl) (.cons (.base rfl) .nil))) rfl rfl) ?_
      refine jg_adr _ rfl _ rfl rfl (op_move (.base rfl)) ?_
      refine jg_adr _ rfl _ rfl rfl (op_ext20 (.base rfl)) ?_
      refine jg_adr _ rfl _ rfl rfl (op_ext21 (.base rfl)) ?_
      refine jg_adr _ rfl _ rfl rfl (op_assign (.base rfl)) ?_
      refine jg_adr _ rfl _ rfl rfl (op_assign (.base rfl)) ?_
      refine jg_nil ?_
      refine jn_keep [0, 1, 2, 9, 11, 12, 13] [] (.cons rfl (.cons rfl (.cons rfl (.cons rfl (.cons rfl (.cons rfl (.cons rfl .nil))))))) .nil ?_
      refine jn_seq (j_seq ?_)
      refine j_region ?_
      refine jg_adr _ rfl _ rfl rfl (op_move (.base rfl)) ?_
      refine jg_adr _ rfl _ rfl rfl (op_move (.base rfl)) ?_
      refine jg_adr _ rfl _ rfl rfl (op_move (.base rfl)) ?_
      refine jg_adr _ rfl _ rfl rfl (op_call (quan_ok _ _ _) (.cons (.base rfl) (.cons (.base rfl) (.cons (.base rfl) .nil))) rfl rfl) ?_
      refine jg_adr _ rfl _ rfl rfl (op_move (.base rfl)) ?_
      refine jg_adr _ rfl _ rfl rfl (op_ext20 (.base rfl)) ?_
      refine jg_adr _ rfl _ rfl rfl (op_ext21 (.base rfl)) ?_
      refine jg_adr _ rfl _ rfl rfl (op_assign (.base rfl)) ?_
      refine jg_adr _ rfl _ rfl rfl (op_assign (.base rfl)) ?_
      refine jg_nil ?_
      refine jn_keep [0, 1, 2, 9, 12, 13, 14, 15] [] (.cons rfl (.cons rfl (.cons rfl (.cons rfl (.cons rfl (.cons rfl (.cons rfl (.cons rfl .nil)))))))) .nil ?_
      refine jn_seq (j_seq ?_)
      refine j_region ?_
      refine jg_adr _ rfl _ rfl rfl (op_move (.base rfl)) ?_
      refine jg_adr _ rfl _ rfl rfl (op_move (.base rfl)) ?_
      refine jg_adr _ rfl _ rfl rfl (op_call (hist_ok _ _) (.cons (.base rfl) (.cons (.base rfl) .nil)) rfl rfl) ?_
      refine jg_adr _ rfl _ rfl rfl (op_move (.base rfl)) ?_
      refine jg_adr _ rfl _ rfl rfl (op_ext20 (.base rfl)) ?_
      refine jg_adr _ rfl _ rfl rfl (op_ext21 (.base rfl)) ?_
      refine jg_adr _ rfl _ rfl rfl (op_assign (.base rfl)) ?_
      refine jg_adr _ rfl _ rfl rfl (op_assign (.base rfl)) ?_
      refine jg_nil ?_
      refine jn_keep [0, 1, 2, 9, 12, 13, 14, 15, 16, 17] [] (.cons rfl (.cons rfl (.cons rfl (.cons rfl (.cons rfl (.cons rfl (.cons rfl (.cons rfl (.cons rfl (.cons rfl .nil)))))))))) .nil ?_
      refine jn_seq (j_seq ?_)
      refine j_region ?_
      refine jg_adr _ rfl _ rfl rfl (op_move (.base rfl)) ?_
      refine jg_adr _ rfl _ rfl rfl (op_move (.base rfl)) ?_
      refine jg_adr _ rfl _ rfl rfl (op_call (hist_ok _ _) (.cons (.base rfl) (.cons (.base rfl) .nil)) rfl rfl) ?_
      refine jg_adr _ rfl _ rfl rfl (op_move (.base rfl)) ?_
      refine jg_adr _ rfl _ rfl rfl (op_ext20 (.base rfl)) ?_
      refine jg_adr _ rfl _ rfl rfl (op_ext21 (.base rfl)) ?_
      refine jg_adr _ rfl _ rfl rfl (op_assign (.base rfl)) ?_
      refine jg_adr _ rfl _ rfl rfl (op_assign (.base rfl)) ?_
      refine jg_nil ?_
      refine jn_keep [0, 2, 9, 12, 13, 14, 15, 16, 17, 18, 19] [] (.cons rfl (.cons rfl (.cons rfl (.cons rfl (.cons rfl (.cons rfl (.cons rfl (.cons rfl (.cons rfl (.cons rfl (.cons rfl .nil))))))))))) .nil ?_
      refine jn_seq (j_seq ?_)
      refine j_region ?_
      refine jg_adr _ rfl _ rfl rfl (op_move (.base rfl)) ?_
      refine jg_adr _ rfl _ rfl rfl (op_move (.base rfl)) ?_
      refine jg_adr _ rfl _ rfl rfl (op_call (shares_ok _ _) (.cons (.base rfl) (.cons (.base rfl) .nil)) rfl rfl) ?_
      refine jg_adr _ rfl _ rfl rfl (op_move (.base rfl)) ?_
      refine jg_adr _ rfl _ rfl rfl (op_ext20 (.base rfl)) ?_
      refine jg_adr _ rfl _ rfl rfl (op_ext21 (.base rfl)) ?_
      refine jg_adr _ rfl _ rfl rfl (op_assign (.base rfl)) ?_
      refine jg_adr _ rfl _ rfl rfl (op_assign (.base rfl)) ?_
      refine jg_nil ?_
      refine jn_keep [2, 9, 12, 13, 14, 15, 16, 17, 18, 19, 20, 21] [] (.cons rfl (.cons rfl (.cons rfl (.cons rfl (.cons rfl (.cons rfl (.cons rfl (.cons rfl (.cons rfl (.cons rfl (.cons rfl (.cons rfl .nil)))))))))))) .nil ?_
      refine jn_seq (j_seq ?_)
      refine j_region ?_
      refine jg_adr _ rfl _ rfl rfl (op_move (.base rfl)) ?_
      refine jg_adr _ rfl _ rfl rfl (op_move (.base rfl)) ?_
      refine jg_adr _ rfl _ rfl rfl (op_call (shares_ok _ _) (.cons (.base rfl) (.cons (.base rfl) .nil)) rfl rfl) ?_
      refine jg_adr _ rfl _ rfl rfl (op_move (.base rfl)) ?_
      refine jg_adr _ rfl _ rfl rfl (op_ext20 (.base rfl)) ?_
      refine jg_adr _ rfl _ rfl rfl (op_ext21 (.base rfl)) ?_
      refine jg_adr _ rfl _ rfl rfl (op_assign (.base rfl)) ?_
      refine jg_adr _ rfl _ rfl rfl (op_assign (.base rfl)) ?_
      refine jg_nil ?_
      refine jn_keep [12, 13, 14, 15, 16, 17, 18, 19, 20, 21, 22, 23] [] (.cons rfl (.cons rfl (.cons rfl (.cons rfl (.cons rfl (.cons rfl (.cons rfl (.cons rfl (.cons rfl (.cons rfl (.cons rfl (.cons rfl .nil)))))))))))) .nil ?_
      refine jn_seq (j_seq ?_)
      refine j_region ?_
      refine jg_adr _ rfl _ rfl rfl (op_move (.base rfl)) ?_
      refine jg_adr _ rfl _ rfl rfl (op_move (.base rfl)) ?_
      refine jg_adr _ rfl _ rfl rfl (op_eql (.base rfl) (.base rfl)) ?_
      refine jg_adr _ rfl _ rfl rfl (op_move (.base rfl)) ?_
      refine jg_gd _ _ _ _ _ _ rfl rfl rfl rfl rfl (fun hg => op_move (.base rfl)) ?_
      refine jg_gd _ _ _ _ _ _ rfl rfl rfl rfl rfl (fun hg => op_move (.base rfl)) ?_
      refine jg_gd _ _ _ _ _ _ rfl rfl rfl rfl rfl (fun hg => op_eql_bool Try.underlying4 (.gd rfl hg) (.gd rfl hg)) ?_
      refine jg_adr _ rfl _ rfl rfl (op_pick_and (.base rfl) (.base rfl) rfl (by intro h; first | (rw [h]; rfl) | (rw [hg, h]; rfl) | (rw [h, hg]; rfl) | simp_all)) ?_
      refine jg_adr _ rfl _ rfl rfl (op_move (.base rfl)) ?_
      refine jg_gd _ _ _ _ _ _ rfl rfl rfl rfl rfl (fun hg => op_move (.base rfl)) ?_
      refine jg_gd _ _ _ _ _ _ rfl rfl rfl rfl rfl (fun hg => op_move (.base rfl)) ?_
      refine jg_gd _ _ _ _ _ _ rfl rfl rfl rfl rfl (fun hg => op_call (same_buckets _ _) (.cons (.gd rfl hg) (.cons (.gd rfl hg) .nil)) rfl rfl) ?_
      refine jg_adr _ rfl _ rfl rfl (op_pick_and (.base rfl) (.base rfl) rfl (by intro h; first | (rw [h]; rfl) | (rw [hg, h]; rfl) | (rw [h, hg]; rfl) | simp_all)) ?_
      refine jg_adr _ rfl _ rfl rfl (op_move (.base rfl)) ?_
      refine jg_gd _ _ _ _ _ _ rfl rfl rfl rfl rfl (fun hg => op_move (.base rfl)) ?_
      refine jg_gd _ _ _ _ _ _ rfl rfl rfl rfl rfl (fun hg => op_move (.base rfl)) ?_
      refine jg_gd _ _ _ _ _ _ rfl rfl rfl rfl rfl (fun hg => op_eql (.gd rfl hg) (.gd rfl hg)) ?_
      refine jg_adr _ rfl _ rfl rfl (op_pick_and (.base rfl) (.base rfl) rfl (by intro h; first | (rw [h]; rfl) | (rw [hg, h]; rfl) | (rw [h, hg]; rfl) | simp_all)) ?_
      refine jg_adr _ rfl _ rfl rfl (op_move (.base rfl)) ?_
      refine jg_gd _ _ _ _ _ _ rfl rfl rfl rfl rfl (fun hg => op_move (.base rfl)) ?_
      refine jg_gd _ _ _ _ _ _ rfl rfl rfl rfl rfl (fun hg => op_move (.base rfl)) ?_
      refine jg_gd _ _ _ _ _ _ rfl rfl rfl rfl rfl (fun hg => op_call (same_ints _ _) (.cons (.gd rfl hg) (.cons (.gd rfl hg) .nil)) rfl rfl) ?_
      refine jg_adr _ rfl _ rfl rfl (op_pick_and (.base rfl) (.base rfl) rfl (by intro h; first | (rw [h]; rfl) | (rw [hg, h]; rfl) | (rw [h, hg]; rfl) | simp_all)) ?_
      refine jg_adr _ rfl _ rfl rfl (op_move (.base rfl)) ?_
      refine jg_gd _ _ _ _ _ _ rfl rfl rfl rfl rfl (fun hg => op_move (.base rfl)) ?_
      refine jg_gd _ _ _ _ _ _ rfl rfl rfl rfl rfl (fun hg => op_move (.base rfl)) ?_
      refine jg_gd _ _ _ _ _ _ rfl rfl rfl rfl rfl (fun hg => op_eql (.gd rfl hg) (.gd rfl hg)) ?_
      refine jg_adr _ rfl _ rfl rfl (op_pick_and (.base rfl) (.base rfl) rfl (by intro h; first | (rw [h]; rfl) | (rw [hg, h]; rfl) | (rw [h, hg]; rfl) | simp_all)) ?_
      refine jg_adr _ rfl _ rfl rfl (op_move (.base rfl)) ?_
      refine jg_gd _ _ _ _ _ _ rfl rfl rfl rfl rfl (fun hg => op_call awake_ok .nil rfl rfl) ?_
      refine jg_adr _ rfl _ rfl rfl (op_pick_and (.base rfl) (.base rfl) rfl (by intro h; first | (rw [h]; rfl) | (rw [hg, h]; rfl) | (rw [h, hg]; rfl) | simp_all)) ?_
      refine jg_adr _ rfl _ rfl rfl (op_assign (.base rfl)) ?_
      refine jg_nil ?_
      refine jn_keep [8] [] (.cons rfl .nil) .nil ?_
      refine jn_seq (j_ret ?_)
      exact jr_fin1 Try.results8 (res_tmp rfl) rfl (rb (by rw [← quanR_perm hpm, ← histR_perm hpm, ← shares_perm hpm]; simp))

theorem law_orderI (l bd : List Int) (n c : Int) (hc : 0 ≤ c ∧ c ≤ 255) : Ct Try.prog 8 [.tv (rSlice (rInt .i64)) l, .tv (rSlice (rInt .i64)) bd, .raw (.int .i64 n), .raw (.int .u8 c)] (.raw (.bool true)) := by
  obtain ⟨m, rfl⟩ := Int.eq_ofNat_of_zero_le hc.1
  exact law_order l bd n m (by omega)

theorem law_mono (l : List Int) (k n : Int) : Ct Try.prog 9 [.tv (rSlice (rInt .i64)) l, .raw (.int .i64 k), .raw (.int .i64 n)] (.raw (.bool true)) := by
  refine ct_intro Try.func9 rfl rfl Try.ntmps9 rfl rfl ?_
  intro w0 ok0
  refine j_len 0 rfl (fun hl0 => ?_)
  refine j_seq ?_
  refine j_region ?_
  refine jg_adr _ rfl _ rfl rfl (op_assign (.base rfl)) ?_
  refine jg_nil ?_
  refine jn_keep [0, 1, 2] [] (.cons rfl (.cons rfl (.cons rfl .nil))) .nil ?_
  refine jn_seq (j_seq (j_seq ?_))
  refine j_region ?_
  refine jg_adr _ rfl _ rfl rfl (op_move (.base rfl)) ?_
  refine jg_adr _ rfl _ rfl rfl (op_call (few_ok _) (.cons (.base rfl) .nil) rfl rfl) ?_
  refine jg_adr _ rfl _ rfl rfl (op_not (.base rfl)) ?_
  refine jg_adr _ rfl _ rfl rfl (op_move (.base rfl)) ?_
  refine jg_gd _ _ _ _ _ _ rfl rfl rfl rfl rfl (fun hg => op_move (.base rfl)) ?_
  refine jg_gd _ _ _ _ _ _ rfl rfl rfl rfl rfl (fun hg => op_move (.base rfl)) ?_
  refine jg_gd _ _ _ _ _ _ rfl rfl rfl rfl rfl (fun hg => op_geq (.gd rfl hg) (.gd rfl hg)) ?_
  refine jg_adr _ rfl _ rfl rfl (op_pick_or (.base rfl) (.base rfl) rfl (by intro h; first | (rw [h]; rfl) | (rw [hg, h]; rfl) | (rw [h, hg]; rfl) | simp_all)) ?_
  refine jg_nil ?_
  refine jn_keep [0, 1, 2, 23] [] (.cons rfl (.cons rfl (.cons rfl (.cons rfl .nil)))) .nil ?_
  refine jn_seq ?_
  refine j_cond rfl (fun h1 => ?_) (fun h1 => ?_)
  · skip
    refine j_seq ?_
    refine j_region ?_
    refine jg_adr _ rfl _ rfl rfl (op_call awake_ok .nil rfl rfl) ?_
    refine jg_adr _ rfl _ rfl rfl (op_assign (.base rfl)) ?_
    refine jg_nil ?_
    refine jn_keep [6] [] (.cons rfl .nil) .nil ?_
    refine jn_seq (j_ret (jr_seq ?_))
    exact jr_fin1 Try.results9 (res_tmp rfl) rfl (rb (by first | rfl | (simp; done)))
  · have k1 : l.length ≤ 200 ∧ k < n := by simp at h1; omega
    refine j_skip (jn_seq (j_seq ?_))
    refine j_region ?_
    refine jg_adr _ rfl _ rfl rfl (op_move (.base rfl)) ?_
    refine jg_adr _ rfl _ rfl rfl (op_move (.base rfl)) ?_
    refine jg_adr _ rfl _ rfl rfl (op_move (.base rfl)) ?_
    refine jg_adr _ rfl _ rfl rfl (op_call (quan_ok _ _ _) (.cons (.base rfl) (.cons (.base rfl) (.cons (.base rfl) .nil))) rfl rfl) ?_
    refine jg_adr _ rfl _ rfl rfl (op_move (.base rfl)) ?_
    refine jg_adr _ rfl _ rfl rfl (op_ext20 (.base rfl)) ?_
    refine jg_adr _ rfl _ rfl rfl (op_ext21 (.base rfl)) ?_
    refine jg_adr _ rfl _ rfl rfl (op_assign (.base rfl)) ?_
    refine jg_adr _ rfl _ rfl rfl (op_assign (.base rfl)) ?_
    refine jg_nil ?_
    refine jn_keep [0, 1, 2, 7, 8] [] (.cons rfl (.cons rfl (.cons rfl (.cons rfl (.cons rfl .nil))))) .nil ?_
    refine jn_seq (j_seq (j_seq ?_))
    refine j_region ?_
    refine jg_adr _ rfl _ rfl rfl (op_move (.base rfl)) ?_
    refine jg_adr _ rfl _ rfl rfl (op_not (.base rfl)) ?_
    refine jg_nil ?_
    refine jn_keep [0, 1, 2, 7, 33] [] (.cons rfl (.cons rfl (.cons rfl (.cons rfl (.cons rfl .nil))))) .nil ?_
    refine jn_seq ?_
    refine j_cond rfl (fun h4 => ?_) (fun h4 => ?_)
    · have h4 : (quanR l k n).2 = false := by simpa using h4
      refine j_seq ?_
      refine j_region ?_
      refine jg_adr _ rfl _ rfl rfl (op_move (.base rfl)) ?_
      refine jg_adr _ rfl _ rfl rfl (op_eql (.base rfl) (.base rfl)) ?_
      refine jg_adr _ rfl _ rfl rfl (op_move (.base rfl)) ?_
      refine jg_gd _ _ _ _ _ _ rfl rfl rfl rfl rfl (fun hg => op_call awake_ok .nil rfl rfl) ?_
      refine jg_adr _ rfl _ rfl rfl (op_pick_and (.base rfl) (.base rfl) rfl (by intro h; first | (rw [h]; rfl) | (rw [hg, h]; rfl) | (rw [h, hg]; rfl) | simp_all)) ?_
      refine jg_adr _ rfl _ rfl rfl (op_assign (.base rfl)) ?_
      refine jg_nil ?_
      refine jn_keep [6] [] (.cons rfl .nil) .nil ?_
      refine jn_seq (j_ret (jr_seq ?_))
      exact jr_fin1 Try.results9 (res_tmp rfl) rfl (rb (by rw [quan_f h4]; rfl))
    · have h4 : (quanR l k n).2 = true := by simpa using h4
      obtain ⟨m1, m2, m3, m4, m5, m6⟩ := quan_t h4
      have ea := quan_v (l := l) (k := k) (n := n) ⟨m1, m2, m3, m4, m5, m6⟩
      have eb := quan_v (l := l) (k := k + 1) (n := n) (by omega)
      have el := quan_v (l := l) (k := 0) (n := n) (by omega)
      have eh := quan_v (l := l) (k := n) (n := n) (by omega)
      rw [qAt_0 m3] at el
      rw [qAt_n m3 m1] at eh
      have q1 := qAt_bd (m := l.length) (k := k) (n := n) m1 m3 ⟨m5, m6⟩
      have q2 := qAt_bd (m := l.length) (k := k + 1) (n := n) m1 m3 (by omega)
      have q3 := qAt_mono (m := l.length) (n := n) m3 (show k ≤ k + 1 by omega)
      have s1 := srt_mono (l := l) (i := 0) (j := (qAt l.length k n).toNat) (by omega) (by omega)
      have s2 := srt_mono (l := l) (i := (qAt l.length k n).toNat) (j := (qAt l.length (k + 1) n).toNat) (by omega) (by omega)
      have s3 := srt_mono (l := l) (i := (qAt l.length (k + 1) n).toNat) (j := l.length - 1) (by omega) (by omega)
      have hn1 : ((l.length : Int) - 1).toNat = l.length - 1 := by omega
      rw [hn1] at eh
      refine j_skip (jn_seq (j_seq ?_))
      refine j_region ?_
      refine jg_adr _ rfl _ rfl rfl (op_move (.base rfl)) ?_
      refine jg_adr _ rfl _ rfl rfl (op_move (.base rfl)) ?_
      refine jg_adr _ rfl _ rfl rfl (op_add (.base rfl) (.base rfl) (w64 (by omega))) ?_
      refine jg_adr _ rfl _ rfl rfl (op_move (.base rfl)) ?_
      refine jg_adr _ rfl _ rfl rfl (op_call (quan_ok _ _ _) (.cons (.base rfl) (.cons (.base rfl) (.cons (.base rfl) .nil))) rfl rfl) ?_
      refine jg_adr _ rfl _ rfl rfl (op_move (.base rfl)) ?_
      refine jg_adr _ rfl _ rfl rfl (op_ext20 (.base rfl)) ?_
      refine jg_adr _ rfl _ rfl rfl (op_ext21 (.base rfl)) ?_
      refine jg_adr _ rfl _ rfl rfl (op_assign (.base rfl)) ?_
      refine jg_adr _ rfl _ rfl rfl (op_assign (.base rfl)) ?_
      refine jg_nil ?_
      refine jn_keep [0, 2, 7, 9, 10] [] (.cons rfl (.cons rfl (.cons rfl (.cons rfl (.cons rfl .nil))))) .nil ?_
      refine jn_seq (j_seq ?_)
      refine j_region ?_
      refine jg_adr _ rfl _ rfl rfl (op_move (.base rfl)) ?_
      refine jg_adr _ rfl _ rfl rfl (op_move (.base rfl)) ?_
      refine jg_adr _ rfl _ rfl rfl (op_call (quan_ok _ _ _) (.cons (.base rfl) (.cons (.base rfl) (.cons (.base rfl) .nil))) rfl rfl) ?_
      refine jg_adr _ rfl _ rfl rfl (op_move (.base rfl)) ?_
      refine jg_adr _ rfl _ rfl rfl (op_ext20 (.base rfl)) ?_
      refine jg_adr _ rfl _ rfl rfl (op_ext21 (.base rfl)) ?_
      refine jg_adr _ rfl _ rfl rfl (op_assign (.base rfl)) ?_
      refine jg_adr _ rfl _ rfl rfl (op_assign (.base rfl)) ?_
      refine jg_nil ?_
      refine jn_keep [0, 2, 7, 9, 10, 11] [] (.cons rfl (.cons rfl (.cons rfl (.cons rfl (.cons rfl (.cons rfl .nil)))))) .nil ?_
      refine jn_seq (j_seq ?_)
      refine j_region ?_
      refine jg_adr _ rfl _ rfl rfl (op_move (.base rfl)) ?_
      refine jg_adr _ rfl _ rfl rfl (op_move (.base rfl)) ?_
      refine jg_adr _ rfl _ rfl rfl (op_move (.base rfl)) ?_
      refine jg_adr _ rfl _ rfl rfl (op_call (quan_ok _ _ _) (.cons (.base rfl) (.cons (.base rfl) (.cons (.base rfl) .nil))) rfl rfl) ?_
      refine jg_adr _ rfl _ rfl rfl (op_move (.base rfl)) ?_
      refine jg_adr _ rfl _ rfl rfl (op_ext20 (.base rfl)) ?_
      refine jg_adr _ rfl _ rfl rfl (op_ext21 (.base rfl)) ?_
      refine jg_adr _ rfl _ rfl rfl (op_assign (.base rfl)) ?_
      refine jg_adr _ rfl _ rfl rfl (op_assign (.base rfl)) ?_
      refine jg_nil ?_
      refine jn_keep [0, 7, 9, 10, 11, 13] [] (.cons rfl (.cons rfl (.cons rfl (.cons rfl (.cons rfl (.cons rfl .nil)))))) .nil ?_
      refine jn_seq (j_seq (j_seq ?_))
      refine j_region ?_
      refine jg_adr _ rfl _ rfl rfl (op_assign (.base rfl)) ?_
      refine jg_nil ?_
      refine jn_keep [0, 7, 9, 10, 11, 13, 15] [] (.cons rfl (.cons rfl (.cons rfl (.cons rfl (.cons rfl (.cons rfl (.cons rfl .nil))))))) .nil ?_
      refine jn_seq (j_block ?_)
      refine j_loopp (ι := Nat) (fun j => ⟨[(0, .tv (rSlice (rInt .i64)) l), (7, .raw (.int .i64 ((quanR l k n).1))), (9, .raw (.int .i64 ((quanR l (k + 1) n).1))), (10, .raw (.bool (quanR l (k + 1) n).2)), (11, .raw (.int .i64 ((quanR l 0 n).1))), (13, .raw (.int .i64 ((quanR l n n).1))), (15, .raw (.int .i64 ((j : Nat))))], []⟩) (fun j => j ≤ l.length) (fun j => l.length - j) 0 (Nat.zero_le _) (fun a w hi => (Sub.inv ⟨(by repeat (first | exact SubS_nil | refine SubS_cons rfl (by first | rfl | (simp; done) | assumption) ?_)), (by repeat (first | exact SubH_nil | refine SubH_cons rfl (by first | rfl | (simp; done) | assumption) ?_))⟩ hi)) ?_
      rintro j hj
      refine j_seq (j_seq ?_)
      refine j_region ?_
      refine jg_adr _ rfl _ rfl rfl (op_move (.base rfl)) ?_
      refine jg_adr _ rfl _ rfl rfl (op_move (.base rfl)) ?_
      refine jg_adr _ rfl _ rfl rfl (op_len Try.underlying22 (.base rfl)) ?_
      refine jg_adr _ rfl _ rfl rfl (op_lss (.base rfl) (.base rfl)) ?_
      refine jg_nil ?_
      refine jn_keep [0, 7, 9, 10, 11, 13, 15, 63] [] (.cons rfl (.cons rfl (.cons rfl (.cons rfl (.cons rfl (.cons rfl (.cons rfl (.cons rfl .nil)))))))) .nil ?_
      refine jn_seq ?_
      refine j_cond rfl (fun h10 => ?_) (fun h10 => ?_)
      · simp at h10
        have hbd := srt_bd (List.getElem_mem h10)
        refine j_skip (jn_seq (j_seq (j_block (j_seq ?_))))
        refine j_region ?_
        refine jg_adr _ rfl _ rfl rfl (op_move (.base rfl)) ?_
        refine jg_adr _ rfl _ rfl rfl (op_move (.base rfl)) ?_
        refine jg_adr _ rfl _ rfl rfl (op_index Try.underlying22 ty3 (.base rfl) (.base rfl) rfl (List.getElem?_eq_getElem (by first | omega | (simp; done) | (simp; omega) | (simp at hg; omega)))) ?_
        refine jg_adr _ rfl _ rfl rfl (op_load ty3 (.base rfl)) ?_
        refine jg_adr _ rfl _ rfl rfl (op_move (.base rfl)) ?_
        refine jg_adr _ rfl _ rfl rfl (op_lss (.base rfl) (.base rfl)) ?_
        refine jg_adr _ rfl _ rfl rfl (op_move (.base rfl)) ?_
        refine jg_gd _ _ _ _ _ _ rfl rfl rfl rfl rfl (fun hg => op_move (.base rfl)) ?_
        refine jg_gd _ _ _ _ _ _ rfl rfl rfl rfl rfl (fun hg => op_move (.base rfl)) ?_
        refine jg_gd _ _ _ _ _ _ rfl rfl rfl rfl rfl (fun hg => op_index Try.underlying22 ty3 (.gd rfl hg) (.gd rfl hg) rfl (getD_some (z := (0 : Int)) (by first | omega | (simp; done) | (simp; omega) | (simp at hg; omega) | (simp at hg; simp; omega)))) ?_
        refine jg_gd _ _ _ _ _ _ rfl rfl rfl rfl rfl (fun hg => op_load ty3 (.gd rfl hg)) ?_
        refine jg_gd _ _ _ _ _ _ rfl rfl rfl rfl rfl (fun hg => op_move (.base rfl)) ?_
        refine jg_gd _ _ _ _ _ _ rfl rfl rfl rfl rfl (fun hg => op_gtr (.gd rfl hg) (.gd rfl hg)) ?_
        refine jg_adr _ rfl _ rfl rfl (op_pick_or (.base rfl) (.base rfl) rfl (by intro h; first | (rw [h]; rfl) | (rw [hg, h]; rfl) | (rw [h, hg]; rfl) | simp_all)) ?_
        refine jg_nil ?_
        refine jn_keep [0, 7, 9, 10, 11, 13, 15, 79] [] (.cons rfl (.cons rfl (.cons rfl (.cons rfl (.cons rfl (.cons rfl (.cons rfl (.cons rfl .nil)))))))) .nil ?_
        refine jn_seq ?_
        refine j_cond rfl (fun h12 => ?_) (fun h12 => ?_)
        · exfalso; rw [el, eh, List.getElem?_eq_getElem h10] at h12; simp at h12; simp at hbd; omega
        · skip
          refine j_skip (jn_blk (jn_seq ?_))
          refine j_region ?_
          refine jg_adr _ rfl _ rfl rfl (op_move (.base rfl)) ?_
          refine jg_adr _ rfl _ rfl rfl (op_add (.base rfl) (.base rfl) (w64 (by omega))) ?_
          refine jg_adr _ rfl _ rfl rfl (op_assign (.base rfl)) ?_
          refine jg_nil ?_
          refine jn_keep [0, 7, 9, 10, 11, 13, 15] [] (.cons rfl (.cons rfl (.cons rfl (.cons rfl (.cons rfl (.cons rfl (.cons rfl .nil))))))) .nil ?_
          exact jn_loop (fun a w hi => ⟨j + 1, (by first | omega | (simp; omega)), (by omega), (Sub.inv ⟨(by repeat (first | exact SubS_nil | refine SubS_cons rfl (by first | rfl | (simp; done) | assumption) ?_)), (by repeat (first | exact SubH_nil | refine SubH_cons rfl (by first | rfl | (simp; done) | assumption) ?_))⟩ hi)⟩)
      · simp at h10
        refine j_exit (je_seq (je_loop (je_blk (jn_seq (j_seq ?_)))))
        refine j_region ?_
        refine jg_adr _ rfl _ rfl rfl (op_move (.base rfl)) ?_
        refine jg_adr _ rfl _ rfl rfl (op_move (.base rfl)) ?_
        refine jg_gd _ _ _ _ _ _ rfl rfl rfl rfl rfl (fun hg => op_move (.base rfl)) ?_
        refine jg_gd _ _ _ _ _ _ rfl rfl rfl rfl rfl (fun hg => op_move (.base rfl)) ?_
        refine jg_gd _ _ _ _ _ _ rfl rfl rfl rfl rfl (fun hg => op_leq (.gd rfl hg) (.gd rfl hg)) ?_
        refine jg_adr _ rfl _ rfl rfl (op_pick_and (.base rfl) (.base rfl) rfl (by intro h; first | (rw [h]; rfl) | (rw [hg, h]; rfl) | (rw [h, hg]; rfl) | simp_all)) ?_
        refine jg_adr _ rfl _ rfl rfl (op_move (.base rfl)) ?_
        refine jg_gd _ _ _ _ _ _ rfl rfl rfl rfl rfl (fun hg => op_move (.base rfl)) ?_
        refine jg_gd _ _ _ _ _ _ rfl rfl rfl rfl rfl (fun hg => op_move (.base rfl)) ?_
        refine jg_gd _ _ _ _ _ _ rfl rfl rfl rfl rfl (fun hg => op_leq (.gd rfl hg) (.gd rfl hg)) ?_
        refine jg_adr _ rfl _ rfl rfl (op_pick_and (.base rfl) (.base rfl) rfl (by intro h; first | (rw [h]; rfl) | (rw [hg, h]; rfl) | (rw [h, hg]; rfl) | simp_all)) ?_
        refine jg_adr _ rfl _ rfl rfl (op_move (.base rfl)) ?_
        refine jg_gd _ _ _ _ _ _ rfl rfl rfl rfl rfl (fun hg => op_move (.base rfl)) ?_
        refine jg_gd _ _ _ _ _ _ rfl rfl rfl rfl rfl (fun hg => op_move (.base rfl)) ?_
        refine jg_gd _ _ _ _ _ _ rfl rfl rfl rfl rfl (fun hg => op_leq (.gd rfl hg) (.gd rfl hg)) ?_
        refine jg_adr _ rfl _ rfl rfl (op_pick_and (.base rfl) (.base rfl) rfl (by intro h; first | (rw [h]; rfl) | (rw [hg, h]; rfl) | (rw [h, hg]; rfl) | simp_all)) ?_
        refine jg_adr _ rfl _ rfl rfl (op_move (.base rfl)) ?_
        refine jg_gd _ _ _ _ _ _ rfl rfl rfl rfl rfl (fun hg => op_call awake_ok .nil rfl rfl) ?_
        refine jg_adr _ rfl _ rfl rfl (op_pick_and (.base rfl) (.base rfl) rfl (by intro h; first | (rw [h]; rfl) | (rw [hg, h]; rfl) | (rw [h, hg]; rfl) | simp_all)) ?_
        refine jg_adr _ rfl _ rfl rfl (op_assign (.base rfl)) ?_
        refine jg_nil ?_
        refine jn_keep [6] [] (.cons rfl .nil) .nil ?_
        refine jn_seq (j_ret ?_)
        exact jr_fin1 Try.results9 (res_tmp rfl) rfl (rb (by rw [ea, eb, el, eh]; simp only [Bool.true_and, Bool.and_true, Bool.and_eq_true, decide_eq_true_eq]; simp only [Int.toNat_zero] at *; omega))

end Go.Proofs.Ytfmoolclokffjaa
