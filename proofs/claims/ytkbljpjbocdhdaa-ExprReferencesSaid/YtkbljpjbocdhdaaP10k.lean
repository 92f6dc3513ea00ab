import Derived.Test.YtkbljpjbocdhdaaP10j
import Derived.Test.YtkbljpjbocdhdaaSame
namespace Go.Proofs.Ytkbljpjbocdhdaa
open Go.Eng
set_option maxRecDepth 100000
set_option maxHeartbeats 4000000
set_option linter.unusedVariables false
set_option linter.unusedSimpArgs false

theorem rstarts_ok (e : List TNode) : Ct Try.prog 10 [.tv (rSlice rNode) e] (sv2 ((structF e).1, (structF e).2.2)) := by
  refine ct_intro Try.func10 rfl rfl Try.ntmps10 rfl rfl ?_
  intro w0 ok0
  refine j_seq ?_
  refine j_region ?_
  refine jg_adr _ rfl _ rfl rfl (op_assign (.base rfl)) ?_
  refine jg_adr _ rfl _ rfl rfl (op_assign (.base rfl)) ?_
  refine jg_nil ?_
  refine jn_keep [0] [] (.cons rfl .nil) .nil ?_
  refine jn_seq (j_seq ?_)
  refine j_region ?_
  refine jg_adr _ rfl _ rfl rfl (op_move (.base rfl)) ?_
  refine jg_adr _ rfl _ rfl rfl (op_call (rstructure_ok e) (.cons (.base rfl) .nil) rfl rfl) ?_
  refine jg_adr _ rfl _ rfl rfl (op_move (.base rfl)) ?_
  refine jg_adr _ rfl _ rfl rfl (op_ext30 (.base rfl)) ?_
  refine jg_adr _ rfl _ rfl rfl (op_ext31 (.base rfl)) ?_
  refine jg_adr _ rfl _ rfl rfl (op_ext32 (.base rfl)) ?_
  refine jg_adr _ rfl _ rfl rfl (op_assign (.base rfl)) ?_
  refine jg_adr _ rfl _ rfl rfl (op_assign (.base rfl)) ?_
  refine jg_adr _ rfl _ rfl rfl (op_assign (.base rfl)) ?_
  refine jg_nil ?_
  refine jn_keep [4, 6] [] (.cons rfl (.cons rfl .nil)) .nil ?_
  refine jn_seq (j_seq ?_)
  refine j_region ?_
  refine jg_adr _ rfl _ rfl rfl (op_move (.base rfl)) ?_
  refine jg_adr _ rfl _ rfl rfl (op_move (.base rfl)) ?_
  refine jg_adr _ rfl _ rfl rfl (op_assign (.base rfl)) ?_
  refine jg_adr _ rfl _ rfl rfl (op_assign (.base rfl)) ?_
  refine jg_nil ?_
  refine jn_keep [2, 3] [] (.cons rfl (.cons rfl .nil)) .nil ?_
  refine jn_seq (j_ret ?_)
  exact jr_fin2 Try.results10 (res_tmp rfl) (res_tmp rfl) ⟨rfl, rfl⟩ rfl

theorem awake_ok  : Ct Try.prog 8 [] (.raw (.bool true)) := by
  refine ct_intro Try.func8 rfl rfl Try.ntmps8 rfl rfl ?_
  intro w0 ok0
  refine j_seq ?_
  refine j_region ?_
  refine jg_adr _ rfl _ rfl rfl (op_assign (.base rfl)) ?_
  refine jg_nil ?_
  refine jn_keep [] [] .nil .nil ?_
  refine jn_seq (j_seq ?_)
  refine j_region ?_
  refine jg_adr _ rfl _ rfl rfl (op_build z44 rfl pl44 (.cons (rt' := (rInt .i64)) rfl ln44_0 (.raw (.base rfl) rfl) (.cons (rt' := (rInt .i64)) rfl ln44_1 (.raw (.base rfl) rfl) .nil))) ?_
  refine jg_adr _ rfl _ rfl rfl (op_build z44 rfl pl44 (.cons (rt' := (rInt .i64)) rfl ln44_0 (.raw (.base rfl) rfl) (.cons (rt' := (rInt .i64)) rfl ln44_1 (.raw (.base rfl) rfl) .nil))) ?_
  refine jg_adr _ rfl _ rfl rfl (op_build z44 rfl pl44 (.cons (rt' := (rInt .i64)) rfl ln44_0 (.raw (.base rfl) rfl) .nil)) ?_
  refine jg_adr _ rfl _ rfl rfl (op_bslice (rt := rNode) Try.underlying22 ty44 z44 rfl (.cons (.tv (.base rfl)) (.cons (.tv (.base rfl)) (.cons (.tv (.base rfl)) .nil))) rfl rfl) ?_
  refine jg_adr _ rfl _ rfl rfl (op_assign (.base rfl)) ?_
  refine jg_nil ?_
  refine jn_keep [1] [] (.cons rfl .nil) .nil ?_
  refine jn_seq (j_seq ?_)
  refine j_region ?_
  refine jg_adr _ rfl _ rfl rfl (op_move (.base rfl)) ?_
  refine jg_adr _ rfl _ rfl rfl (op_call (starts_ok _) (.cons (.base rfl) .nil) rfl rfl) ?_
  refine jg_adr _ rfl _ rfl rfl (op_move (.base rfl)) ?_
  refine jg_adr _ rfl _ rfl rfl (op_ext20 (.base rfl)) ?_
  refine jg_adr _ rfl _ rfl rfl (op_ext21 (.base rfl)) ?_
  refine jg_adr _ rfl _ rfl rfl (op_assign (.base rfl)) ?_
  refine jg_adr _ rfl _ rfl rfl (op_assign (.base rfl)) ?_
  refine jg_nil ?_
  refine jn_keep [1, 2, 3] [] (.cons rfl (.cons rfl (.cons rfl .nil))) .nil ?_
  refine jn_seq (j_seq ?_)
  refine j_region ?_
  refine jg_adr _ rfl _ rfl rfl (op_move (.base rfl)) ?_
  refine jg_adr _ rfl _ rfl rfl (op_build z36 rfl pl36 .nil) ?_
  refine jg_adr _ rfl _ rfl rfl (op_call (typeOf_ok _ _ (by decide)) (.cons (.base rfl) (.cons (.base rfl) .nil)) rfl rfl) ?_
  refine jg_adr _ rfl _ rfl rfl (op_move (.base rfl)) ?_
  refine jg_adr _ rfl _ rfl rfl (op_ext30 (.base rfl)) ?_
  refine jg_adr _ rfl _ rfl rfl (op_ext31 (.base rfl)) ?_
  refine jg_adr _ rfl _ rfl rfl (op_ext32 (.base rfl)) ?_
  refine jg_os _ rfl (op_alloc _ z39 rfl rfl rfl) ?_
  refine jg_os _ rfl (op_ostore ty39 (.base rfl) rfl rfl (Lens.id _) (.tv (.base rfl))) ?_
  refine jg_adr _ rfl _ rfl rfl (op_assign (.base rfl)) ?_
  refine jg_adr _ rfl _ rfl rfl (op_assign (.base rfl)) ?_
  refine jg_nil ?_
  refine jn_keep [1, 2, 3, 4, 6] [4] (.cons rfl (.cons rfl (.cons rfl (.cons rfl (.cons rfl .nil))))) (.cons rfl .nil) ?_
  refine jn_seq (j_seq ?_)
  refine j_region ?_
  refine jg_adr _ rfl _ rfl rfl (op_build z44 rfl pl44 (.cons (rt' := (rInt .i64)) rfl ln44_0 (.raw (.base rfl) rfl) (.cons (rt' := (rInt .i64)) rfl ln44_1 (.raw (.base rfl) rfl) .nil))) ?_
  refine jg_adr _ rfl _ rfl rfl (op_build z44 rfl pl44 (.cons (rt' := (rInt .i64)) rfl ln44_0 (.raw (.base rfl) rfl) (.cons (rt' := (rInt .i64)) rfl ln44_1 (.raw (.base rfl) rfl) .nil))) ?_
  refine jg_adr _ rfl _ rfl rfl (op_build z44 rfl pl44 (.cons (rt' := (rInt .i64)) rfl ln44_0 (.raw (.base rfl) rfl) .nil)) ?_
  refine jg_adr _ rfl _ rfl rfl (op_bslice (rt := rNode) Try.underlying22 ty44 z44 rfl (.cons (.tv (.base rfl)) (.cons (.tv (.base rfl)) (.cons (.tv (.base rfl)) .nil))) rfl rfl) ?_
  refine jg_adr _ rfl _ rfl rfl (op_build z36 rfl pl36 .nil) ?_
  refine jg_adr _ rfl _ rfl rfl (op_call (typeOf_ok _ _ (by decide)) (.cons (.base rfl) (.cons (.base rfl) .nil)) rfl rfl) ?_
  refine jg_adr _ rfl _ rfl rfl (op_move (.base rfl)) ?_
  refine jg_adr _ rfl _ rfl rfl (op_ext30 (.base rfl)) ?_
  refine jg_adr _ rfl _ rfl rfl (op_ext31 (.base rfl)) ?_
  refine jg_adr _ rfl _ rfl rfl (op_ext32 (.base rfl)) ?_
  refine jg_os _ rfl (op_alloc _ z39 rfl rfl rfl) ?_
  refine jg_os _ rfl (op_ostore ty39 (.base rfl) rfl rfl (Lens.id _) (.tv (.base rfl))) ?_
  refine jg_adr _ rfl _ rfl rfl (op_assign (.base rfl)) ?_
  refine jg_adr _ rfl _ rfl rfl (op_assign (.base rfl)) ?_
  refine jg_nil ?_
  refine jn_keep [1, 2, 3, 4, 6, 8, 9] [4] (.cons rfl (.cons rfl (.cons rfl (.cons rfl (.cons rfl (.cons rfl (.cons rfl .nil))))))) (.cons rfl .nil) ?_
  refine jn_seq (j_seq ?_)
  refine j_region ?_
  refine jg_adr _ rfl _ rfl rfl (op_build z44 rfl pl44 (.cons (rt' := (rInt .i64)) rfl ln44_0 (.raw (.base rfl) rfl) (.cons (rt' := (rInt .i64)) rfl ln44_1 (.raw (.base rfl) rfl) .nil))) ?_
  refine jg_adr _ rfl _ rfl rfl (op_build z44 rfl pl44 (.cons (rt' := (rInt .i64)) rfl ln44_0 (.raw (.base rfl) rfl) (.cons (rt' := (rInt .i64)) rfl ln44_1 (.raw (.base rfl) rfl) .nil))) ?_
  refine jg_adr _ rfl _ rfl rfl (op_bslice (rt := rNode) Try.underlying22 ty44 z44 rfl (.cons (.tv (.base rfl)) (.cons (.tv (.base rfl)) .nil)) rfl rfl) ?_
  refine jg_adr _ rfl _ rfl rfl (op_build z36 rfl pl36 .nil) ?_
  refine jg_adr _ rfl _ rfl rfl (op_call (typeOf_ok _ _ (by decide)) (.cons (.base rfl) (.cons (.base rfl) .nil)) rfl rfl) ?_
  refine jg_adr _ rfl _ rfl rfl (op_move (.base rfl)) ?_
  refine jg_adr _ rfl _ rfl rfl (op_ext30 (.base rfl)) ?_
  refine jg_adr _ rfl _ rfl rfl (op_ext31 (.base rfl)) ?_
  refine jg_adr _ rfl _ rfl rfl (op_ext32 (.base rfl)) ?_
  refine jg_os _ rfl (op_alloc _ z39 rfl rfl rfl) ?_
  refine jg_os _ rfl (op_ostore ty39 (.base rfl) rfl rfl (Lens.id _) (.tv (.base rfl))) ?_
  refine jg_adr _ rfl _ rfl rfl (op_assign (.base rfl)) ?_
  refine jg_adr _ rfl _ rfl rfl (op_assign (.base rfl)) ?_
  refine jg_nil ?_
  refine jn_keep [1, 2, 3, 4, 6, 8, 9, 11, 12] [4] (.cons rfl (.cons rfl (.cons rfl (.cons rfl (.cons rfl (.cons rfl (.cons rfl (.cons rfl (.cons rfl .nil))))))))) (.cons rfl .nil) ?_
  refine jn_seq (j_seq ?_)
  refine j_region ?_
  refine jg_adr _ rfl _ rfl rfl (op_build z44 rfl pl44 (.cons (rt' := (rInt .i64)) rfl ln44_0 (.raw (.base rfl) rfl) (.cons (rt' := (rInt .i64)) rfl ln44_1 (.raw (.base rfl) rfl) .nil))) ?_
  refine jg_adr _ rfl _ rfl rfl (op_build z44 rfl pl44 (.cons (rt' := (rInt .i64)) rfl ln44_0 (.raw (.base rfl) rfl) (.cons (rt' := (rInt .i64)) rfl ln44_1 (.raw (.base rfl) rfl) .nil))) ?_
  refine jg_adr _ rfl _ rfl rfl (op_bslice (rt := rNode) Try.underlying22 ty44 z44 rfl (.cons (.tv (.base rfl)) (.cons (.tv (.base rfl)) .nil)) rfl rfl) ?_
  refine jg_adr _ rfl _ rfl rfl (op_build z36 rfl pl36 .nil) ?_
  refine jg_adr _ rfl _ rfl rfl (op_call (typeOf_ok _ _ (by decide)) (.cons (.base rfl) (.cons (.base rfl) .nil)) rfl rfl) ?_
  refine jg_adr _ rfl _ rfl rfl (op_move (.base rfl)) ?_
  refine jg_adr _ rfl _ rfl rfl (op_ext30 (.base rfl)) ?_
  refine jg_adr _ rfl _ rfl rfl (op_ext31 (.base rfl)) ?_
  refine jg_adr _ rfl _ rfl rfl (op_ext32 (.base rfl)) ?_
  refine jg_os _ rfl (op_alloc _ z39 rfl rfl rfl) ?_
  refine jg_os _ rfl (op_ostore ty39 (.base rfl) rfl rfl (Lens.id _) (.tv (.base rfl))) ?_
  refine jg_adr _ rfl _ rfl rfl (op_assign (.base rfl)) ?_
  refine jg_adr _ rfl _ rfl rfl (op_assign (.base rfl)) ?_
  refine jg_nil ?_
  refine jn_keep [1, 2, 3, 4, 6, 8, 9, 11, 12, 14, 15] [4] (.cons rfl (.cons rfl (.cons rfl (.cons rfl (.cons rfl (.cons rfl (.cons rfl (.cons rfl (.cons rfl (.cons rfl (.cons rfl .nil))))))))))) (.cons rfl .nil) ?_
  refine jn_seq (j_seq (j_seq ?_))
  refine j_region ?_
  refine jg_adr _ rfl _ rfl rfl (op_move (.base rfl)) ?_
  refine jg_adr _ rfl _ rfl rfl (op_neq (.base rfl) (.base rfl)) ?_
  refine jg_adr _ rfl _ rfl rfl (op_move (.base rfl)) ?_
  refine jg_gd _ _ _ _ _ _ rfl rfl rfl rfl rfl (fun hg => op_move (.base rfl)) ?_
  refine jg_gd _ _ _ _ _ _ rfl rfl rfl rfl rfl (fun hg => op_bslice (rt := (rInt .i64)) Try.underlying24 ty3 z3 rfl (.cons (.raw (.base rfl) rfl) (.cons (.raw (.base rfl) rfl) (.cons (.raw (.base rfl) rfl) .nil))) rfl rfl) ?_
  refine jg_gd _ _ _ _ _ _ rfl rfl rfl rfl rfl (fun hg => op_call (same_ints _ _) (.cons (.gd rfl hg) (.cons (.gd rfl hg) .nil)) rfl rfl) ?_
  refine jg_gd _ _ _ _ _ _ rfl rfl rfl rfl rfl (fun hg => op_not (.gd rfl hg)) ?_
  refine jg_adr _ rfl _ rfl rfl (op_pick_or (.base rfl) (.base rfl) rfl (by intro h; first | (rw [h]; rfl) | simp_all)) ?_
  refine jg_adr _ rfl _ rfl rfl (op_move (.base rfl)) ?_
  refine jg_gd _ _ _ _ _ _ rfl rfl rfl rfl rfl (fun hg => op_move (.base rfl)) ?_
  refine jg_gd _ _ _ _ _ _ rfl rfl rfl rfl rfl (fun hg => op_call (operands_ok _ _) (.cons (.gd rfl hg) (.cons (.base rfl) .nil)) rfl rfl) ?_
  refine jg_gd _ _ _ _ _ _ rfl rfl rfl rfl rfl (fun hg => op_bslice (rt := (rInt .i64)) Try.underlying24 ty3 z3 rfl (.cons (.raw (.base rfl) rfl) (.cons (.raw (.base rfl) rfl) .nil)) rfl rfl) ?_
  refine jg_gd _ _ _ _ _ _ rfl rfl rfl rfl rfl (fun hg => op_call (same_ints _ _) (.cons (.gd rfl hg) (.cons (.gd rfl hg) .nil)) rfl rfl) ?_
  refine jg_gd _ _ _ _ _ _ rfl rfl rfl rfl rfl (fun hg => op_not (.gd rfl hg)) ?_
  refine jg_adr _ rfl _ rfl rfl (op_pick_or (.base rfl) (.base rfl) rfl (by intro h; first | (rw [h]; rfl) | simp_all)) ?_
  refine jg_adr _ rfl _ rfl rfl (op_move (.base rfl)) ?_
  refine jg_gd _ _ _ _ _ _ rfl rfl rfl rfl rfl (fun hg => op_move (.base rfl)) ?_
  refine jg_gd _ _ _ _ _ _ rfl rfl rfl rfl rfl (fun hg => op_neq (.gd rfl hg) (.base rfl)) ?_
  refine jg_adr _ rfl _ rfl rfl (op_pick_or (.base rfl) (.base rfl) rfl (by intro h; first | (rw [h]; rfl) | simp_all)) ?_
  refine jg_adr _ rfl _ rfl rfl (op_move (.base rfl)) ?_
  refine jg_gd _ _ _ _ _ _ rfl rfl rfl rfl rfl (fun hg => op_ofield fld39_0 (.base rfl)) ?_
  refine jg_gd _ _ _ _ _ _ rfl rfl rfl rfl rfl (fun hg => op_oload ty3 (.gd rfl hg) rfl rfl ln39_0) ?_
  refine jg_gd _ _ _ _ _ _ rfl rfl rfl rfl rfl (fun hg => op_neq (.gd rfl hg) (.base rfl)) ?_
  refine jg_adr _ rfl _ rfl rfl (op_pick_or (.base rfl) (.base rfl) rfl (by intro h; first | (rw [h]; rfl) | simp_all)) ?_
  refine jg_nil ?_
  refine jn_keep [8, 9, 11, 12, 14, 15, 83] [] (.cons rfl (.cons rfl (.cons rfl (.cons rfl (.cons rfl (.cons rfl (.cons rfl .nil))))))) .nil ?_
  refine jn_seq ?_
  refine j_cond rfl (fun h7 => ?_) (fun h7 => ?_)
  · exact absurd (h7.symm.trans (show _ = false by kernel_rfl)) (by decide)
  · try simp at h7
    refine j_skip (jn_seq (j_seq ?_))
    refine j_region ?_
    refine jg_adr _ rfl _ rfl rfl (op_move (.base rfl)) ?_
    refine jg_adr _ rfl _ rfl rfl (op_eql (.base rfl) (.base rfl)) ?_
    refine jg_adr _ rfl _ rfl rfl (op_move (.base rfl)) ?_
    refine jg_gd _ _ _ _ _ _ rfl rfl rfl rfl rfl (fun hg => op_move (.base rfl)) ?_
    refine jg_gd _ _ _ _ _ _ rfl rfl rfl rfl rfl (fun hg => op_eql (.gd rfl hg) (.base rfl)) ?_
    refine jg_adr _ rfl _ rfl rfl (op_pick_and (.base rfl) (.base rfl) rfl (by intro h; first | (rw [h]; rfl) | simp_all)) ?_
    refine jg_adr _ rfl _ rfl rfl (op_move (.base rfl)) ?_
    refine jg_gd _ _ _ _ _ _ rfl rfl rfl rfl rfl (fun hg => op_move (.base rfl)) ?_
    refine jg_gd _ _ _ _ _ _ rfl rfl rfl rfl rfl (fun hg => op_eql (.gd rfl hg) (.base rfl)) ?_
    refine jg_adr _ rfl _ rfl rfl (op_pick_and (.base rfl) (.base rfl) rfl (by intro h; first | (rw [h]; rfl) | simp_all)) ?_
    refine jg_adr _ rfl _ rfl rfl (op_move (.base rfl)) ?_
    refine jg_gd _ _ _ _ _ _ rfl rfl rfl rfl rfl (fun hg => op_move (.base rfl)) ?_
    refine jg_gd _ _ _ _ _ _ rfl rfl rfl rfl rfl (fun hg => op_eql (.gd rfl hg) (.base rfl)) ?_
    refine jg_adr _ rfl _ rfl rfl (op_pick_and (.base rfl) (.base rfl) rfl (by intro h; first | (rw [h]; rfl) | simp_all)) ?_
    refine jg_adr _ rfl _ rfl rfl (op_move (.base rfl)) ?_
    refine jg_gd _ _ _ _ _ _ rfl rfl rfl rfl rfl (fun hg => op_move (.base rfl)) ?_
    refine jg_gd _ _ _ _ _ _ rfl rfl rfl rfl rfl (fun hg => op_eql (.gd rfl hg) (.base rfl)) ?_
    refine jg_adr _ rfl _ rfl rfl (op_pick_and (.base rfl) (.base rfl) rfl (by intro h; first | (rw [h]; rfl) | simp_all)) ?_
    refine jg_adr _ rfl _ rfl rfl (op_move (.base rfl)) ?_
    refine jg_gd _ _ _ _ _ _ rfl rfl rfl rfl rfl (fun hg => op_move (.base rfl)) ?_
    refine jg_gd _ _ _ _ _ _ rfl rfl rfl rfl rfl (fun hg => op_eql (.gd rfl hg) (.base rfl)) ?_
    refine jg_adr _ rfl _ rfl rfl (op_pick_and (.base rfl) (.base rfl) rfl (by intro h; first | (rw [h]; rfl) | simp_all)) ?_
    refine jg_adr _ rfl _ rfl rfl (op_assign (.base rfl)) ?_
    refine jg_nil ?_
    refine jn_keep [0] [] (.cons rfl .nil) .nil ?_
    refine jn_seq (j_ret ?_)
    exact jr_fin1 Try.results8 (res_tmp rfl) rfl (rb (by kernel_rfl))

theorem law_structure (e : List TNode) (at_ op : Int) : Ct Try.prog 3 [.tv (rSlice rNode) e, .raw (.int .i64 at_), .raw (.int .i64 op)] (.raw (.bool true)) := by
  refine ct_intro Try.func3 rfl rfl Try.ntmps3 rfl rfl ?_
  intro w0 ok0
  refine j_seq ?_
  refine j_region ?_
  refine jg_adr _ rfl _ rfl rfl (op_assign (.base rfl)) ?_
  refine jg_nil ?_
  refine jn_keep [0, 1, 2] [] (.cons rfl (.cons rfl (.cons rfl .nil))) .nil ?_
  refine jn_seq (j_seq (j_seq ?_))
  refine j_region ?_
  refine jg_adr _ rfl _ rfl rfl (op_move (.base rfl)) ?_
  refine jg_adr _ rfl _ rfl rfl (op_len Try.underlying22 (.base rfl)) ?_
  refine jg_adr _ rfl _ rfl rfl (op_gtr (.base rfl) (.base rfl)) ?_
  refine jg_nil ?_
  refine jn_keep [0, 1, 2, 13] [] (.cons rfl (.cons rfl (.cons rfl (.cons rfl .nil)))) .nil ?_
  refine jn_seq ?_
  refine j_cond rfl (fun h1 => ?_) (fun h1 => ?_)
  · try simp at h1
    refine j_seq ?_
    refine j_region ?_
    refine jg_adr _ rfl _ rfl rfl (op_call awake_ok .nil rfl rfl) ?_
    refine jg_adr _ rfl _ rfl rfl (op_assign (.base rfl)) ?_
    refine jg_nil ?_
    refine jn_keep [6] [] (.cons rfl .nil) .nil ?_
    refine jn_seq (j_ret (jr_seq ?_))
    exact jr_fin1 Try.results3 (res_tmp rfl) rfl rfl
  · try simp at h1
    refine j_skip (jn_seq (j_seq ?_))
    refine j_region ?_
    refine jg_adr _ rfl _ rfl rfl (op_move (.base rfl)) ?_
    refine jg_adr _ rfl _ rfl rfl (op_call (starts_ok _) (.cons (.base rfl) .nil) rfl rfl) ?_
    refine jg_adr _ rfl _ rfl rfl (op_move (.base rfl)) ?_
    refine jg_adr _ rfl _ rfl rfl (op_ext20 (.base rfl)) ?_
    refine jg_adr _ rfl _ rfl rfl (op_ext21 (.base rfl)) ?_
    refine jg_adr _ rfl _ rfl rfl (op_assign (.base rfl)) ?_
    refine jg_adr _ rfl _ rfl rfl (op_assign (.base rfl)) ?_
    refine jg_nil ?_
    refine jn_keep [0, 1, 2, 7, 8] [] (.cons rfl (.cons rfl (.cons rfl (.cons rfl (.cons rfl .nil))))) .nil ?_
    refine jn_seq (j_seq ?_)
    refine j_region ?_
    refine jg_adr _ rfl _ rfl rfl (op_move (.base rfl)) ?_
    refine jg_adr _ rfl _ rfl rfl (op_call (rstarts_ok _) (.cons (.base rfl) .nil) rfl rfl) ?_
    refine jg_adr _ rfl _ rfl rfl (op_move (.base rfl)) ?_
    refine jg_adr _ rfl _ rfl rfl (op_ext20 (.base rfl)) ?_
    refine jg_adr _ rfl _ rfl rfl (op_ext21 (.base rfl)) ?_
    refine jg_adr _ rfl _ rfl rfl (op_assign (.base rfl)) ?_
    refine jg_adr _ rfl _ rfl rfl (op_assign (.base rfl)) ?_
    refine jg_nil ?_
    refine jn_keep [0, 1, 2, 7, 8, 9, 10] [] (.cons rfl (.cons rfl (.cons rfl (.cons rfl (.cons rfl (.cons rfl (.cons rfl .nil))))))) .nil ?_
    refine jn_seq (j_seq ?_)
    refine j_region ?_
    refine jg_adr _ rfl _ rfl rfl (op_move (.base rfl)) ?_
    refine jg_adr _ rfl _ rfl rfl (op_call (arity_ok _) (.cons (.base rfl) .nil) rfl rfl) ?_
    refine jg_adr _ rfl _ rfl rfl (op_move (.base rfl)) ?_
    refine jg_adr _ rfl _ rfl rfl (op_call (rarity_ok _) (.cons (.base rfl) .nil) rfl rfl) ?_
    refine jg_adr _ rfl _ rfl rfl (op_eql (.base rfl) (.base rfl)) ?_
    refine jg_adr _ rfl _ rfl rfl (op_move (.base rfl)) ?_
    refine jg_gd _ _ _ _ _ _ rfl rfl rfl rfl rfl (fun hg => op_move (.base rfl)) ?_
    refine jg_gd _ _ _ _ _ _ rfl rfl rfl rfl rfl (fun hg => op_move (.base rfl)) ?_
    refine jg_gd _ _ _ _ _ _ rfl rfl rfl rfl rfl (fun hg => op_eql (.gd rfl hg) (.gd rfl hg)) ?_
    refine jg_adr _ rfl _ rfl rfl (op_pick_and (.base rfl) (.base rfl) rfl (by intro h; first | (rw [h]; rfl) | simp_all)) ?_
    refine jg_adr _ rfl _ rfl rfl (op_move (.base rfl)) ?_
    refine jg_gd _ _ _ _ _ _ rfl rfl rfl rfl rfl (fun hg => op_move (.base rfl)) ?_
    refine jg_gd _ _ _ _ _ _ rfl rfl rfl rfl rfl (fun hg => op_move (.base rfl)) ?_
    refine jg_gd _ _ _ _ _ _ rfl rfl rfl rfl rfl (fun hg => op_call (same_ints _ _) (.cons (.gd rfl hg) (.cons (.gd rfl hg) .nil)) rfl rfl) ?_
    refine jg_adr _ rfl _ rfl rfl (op_pick_and (.base rfl) (.base rfl) rfl (by intro h; first | (rw [h]; rfl) | simp_all)) ?_
    refine jg_adr _ rfl _ rfl rfl (op_move (.base rfl)) ?_
    refine jg_gd _ _ _ _ _ _ rfl rfl rfl rfl rfl (fun hg => op_move (.base rfl)) ?_
    refine jg_gd _ _ _ _ _ _ rfl rfl rfl rfl rfl (fun hg => op_move (.base rfl)) ?_
    refine jg_gd _ _ _ _ _ _ rfl rfl rfl rfl rfl (fun hg => op_call (operands_ok _ _) (.cons (.gd rfl hg) (.cons (.gd rfl hg) .nil)) rfl rfl) ?_
    refine jg_gd _ _ _ _ _ _ rfl rfl rfl rfl rfl (fun hg => op_move (.base rfl)) ?_
    refine jg_gd _ _ _ _ _ _ rfl rfl rfl rfl rfl (fun hg => op_move (.base rfl)) ?_
    refine jg_gd _ _ _ _ _ _ rfl rfl rfl rfl rfl (fun hg => op_call (roperands_ok _ _) (.cons (.gd rfl hg) (.cons (.gd rfl hg) .nil)) rfl rfl) ?_
    refine jg_gd _ _ _ _ _ _ rfl rfl rfl rfl rfl (fun hg => op_call (same_ints _ _) (.cons (.gd rfl hg) (.cons (.gd rfl hg) .nil)) rfl rfl) ?_
    refine jg_adr _ rfl _ rfl rfl (op_pick_and (.base rfl) (.base rfl) rfl (by intro h; first | (rw [h]; rfl) | simp_all)) ?_
    refine jg_adr _ rfl _ rfl rfl (op_move (.base rfl)) ?_
    refine jg_gd _ _ _ _ _ _ rfl rfl rfl rfl rfl (fun hg => op_call awake_ok .nil rfl rfl) ?_
    refine jg_adr _ rfl _ rfl rfl (op_pick_and (.base rfl) (.base rfl) rfl (by intro h; first | (rw [h]; rfl) | simp_all)) ?_
    refine jg_adr _ rfl _ rfl rfl (op_assign (.base rfl)) ?_
    refine jg_nil ?_
    refine jn_keep [6] [] (.cons rfl .nil) .nil ?_
    refine jn_seq (j_ret ?_)
    exact jr_fin1 Try.results3 (res_tmp rfl) rfl (rb (by simp))

end Go.Proofs.Ytkbljpjbocdhdaa
